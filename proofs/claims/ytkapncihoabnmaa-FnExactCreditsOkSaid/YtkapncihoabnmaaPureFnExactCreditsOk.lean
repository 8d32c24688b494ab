/- The statement FnExactCreditsOk over lists of whole numbers: the program and the reference take the same credits for valid, and the program leaves what it is given. What is larger than the law's own bound is let by, as the law itself does. -/
import Derived.Test.YtkapncihoabnmaaPFnExactCreditsOkx2
import Derived.Test.YtkapncihoabnmaaXLists
namespace Go.Proofs.Ytkapncihoabnmaa.Pure
set_option linter.unusedVariables false
set_option linter.unusedSimpArgs false
open Go.RowKit Go.Proofs.Ytkapncihoabnmaa.PFnExactCreditsOk Go.Proofs.YtkapncihoabnmaaW.PrintWords Go.Proofs.YtkapncihoabnmaaW.PrintLast Go.Proofs.YtkapncihoabnmaaW.PrintMore Go.Proofs.YtkapncihoabnmaaX

theorem within_eq (a l m : Int) : impl_within.f a l m = some (decide (l ≤ a ∧ a ≤ m)) := by
  unfold impl_within.f
  by_cases h : a ≥ l
  · have h' : l ≤ a := h
    rw [if_pos h]; simp [h']
  · have h' : ¬ l ≤ a := h
    rw [if_neg h]; simp [h']
theorem l01In_eq (a l m : Int) : spec_l01In.f a l m = some (decide (l ≤ a ∧ a ≤ m)) := by
  unfold spec_l01In.f
  by_cases h : a ≥ l
  · have h' : l ≤ a := h
    rw [if_pos h]; simp [h']
  · have h' : ¬ l ≤ a := h
    rw [if_neg h]; simp [h']
theorem any_not {α : Type} (l : List α) (p : α → Bool) : (!l.any fun x => !p x) = l.all p := by
  induction l with
  | nil => rfl
  | cons a l ih => rw [List.any_cons, List.all_cons, Bool.not_or, ih, Bool.not_not]
theorem szIntS_eq (l : List Int) (left : Int) (h0 : 0 ≤ left) (h1 : left ≤ 1048576) (hl : l.length ≤ 9223372036854775807) : laws_szIntS.f l left = some (if left < l.length then -1 else left - l.length) := by
  unfold laws_szIntS.f
  rw [wrap_id _ (by omega)]
  by_cases h : left < l.length
  · rw [if_pos (by omega), if_pos h]
  · rw [if_neg (by omega), if_neg h]
/-- What is left behind a pair of credits: less than nothing, or the room that both take. -/
theorem szCredits_eq (a b : List Int) (left : Int) (h0 : 0 ≤ left) (h1 : left ≤ 1048576) (ha : a.length ≤ 9223372036854775807) (hb : b.length ≤ 9223372036854775807) :
    ∃ r, laws_szCredits.f a b left = some r ∧ (0 ≤ r → r = left - a.length - b.length) := by
  unfold laws_szCredits.f
  rw [szIntS_eq a left h0 h1 ha]
  simp only [Option.bind_some]
  by_cases hx : left < a.length
  · rw [if_pos hx, if_pos (by omega)]
    exact ⟨_, rfl, fun h => by omega⟩
  · rw [if_neg hx, if_neg (by omega), szIntS_eq b _ (by omega) (by omega) hb]
    simp only [Option.bind_some]
    by_cases hy : left - a.length < b.length
    · rw [if_pos hy, if_pos (by omega)]
      exact ⟨_, rfl, fun h => by omega⟩
    · rw [if_neg hy, if_neg (by omega)]
      exact ⟨_, rfl, fun _ => rfl⟩
theorem toIntS_l0 (l : List Int) (hb : l.length ≤ 1048576) (d : Nat) : ∀ (x : List Int) (i : Nat), x.length = l.length → x.take i = l.take i → i + d = l.length → ∀ k, d < k → laws_toIntS.l0 k l x (i : Int) = some l := by
  induction d with
  | zero =>
    intro x i hx ht hi k hk
    obtain ⟨k, rfl⟩ : ∃ m, k = m + 1 := ⟨k - 1, by omega⟩
    simp only [laws_toIntS.l0]
    rw [if_neg (show ¬ (i : Int) < (l.length : Int) by omega), fill_end x l i hx (by omega) ht]
  | succ d ih =>
    intro x i hx ht hi k hk
    obtain ⟨k, rfl⟩ : ∃ m, k = m + 1 := ⟨k - 1, by omega⟩
    simp only [laws_toIntS.l0]
    rw [if_pos (show (i : Int) < (l.length : Int) by omega), if_pos (show (0 : Int) ≤ (i : Int) by omega), if_pos (show (i : Int) < (x.length : Int) by omega), wrap_succ i (by omega), toNat_nat, rd_lt l i (by omega)]
    exact ih _ (i + 1) (by simp [hx]) (fill_step x l i _ (by omega) (by omega) ht rfl) (by omega) k (by omega)
theorem toIntS_ev (l : List Int) (hb : l.length ≤ 1048576) : ∀ k, l.length < k → laws_toIntS.f k l = some l := by
  intro k hk
  unfold laws_toIntS.f
  rw [if_pos (by omega), if_pos (by omega)]
  exact toIntS_l0 l hb l.length _ 0 (by simp) (by simp) (by omega) k hk
theorem eqIntS_l0 (a b : List Int) (hl : a.length = b.length) (hb : a.length < 9223372036854775807) (d : Nat) : ∀ (i : Nat), i + d = a.length → ∀ k, d < k → laws_eqIntS.l0 k a b (i : Int) = some (decide (a.drop i = b.drop i)) := by
  induction d with
  | zero =>
    intro i hi k hk
    obtain ⟨k, rfl⟩ : ∃ m, k = m + 1 := ⟨k - 1, by omega⟩
    simp only [laws_eqIntS.l0]
    rw [if_neg (show ¬ (i : Int) < (a.length : Int) by omega), drop_all a i (by omega), drop_all b i (by omega)]
    simp
  | succ d ih =>
    intro i hi k hk
    obtain ⟨k, rfl⟩ : ∃ m, k = m + 1 := ⟨k - 1, by omega⟩
    simp only [laws_eqIntS.l0]
    rw [if_pos (show (i : Int) < (a.length : Int) by omega), if_pos (show (0 : Int) ≤ (i : Int) by omega), if_pos (show (i : Int) < (b.length : Int) by omega)]
    by_cases he : rd a (i : Int) = rd b (i : Int)
    · rw [if_pos he, wrap_succ i (by omega), ih (i + 1) (by omega) k (by omega)]
      congr 1
      rw [decide_eq_decide, drop_eq_iff a b i (by omega) (by omega)]
      exact ⟨fun h => ⟨he, h⟩, fun h => h.2⟩
    · rw [if_neg he]
      congr 1
      symm
      rw [decide_eq_false_iff_not, drop_eq_iff a b i (by omega) (by omega)]
      exact fun h => he h.1
theorem eqIntS_ev (a b : List Int) (hb : a.length < 9223372036854775807) : ∀ k, a.length < k → laws_eqIntS.f k a b = some (decide (a = b)) := by
  intro k hk
  unfold laws_eqIntS.f
  by_cases hl : a.length = b.length
  · rw [if_pos (by omega)]
    exact eqIntS_l0 a b hl hb a.length 0 (by omega) k hk
  · rw [if_neg (by omega), decide_eq_false (fun h => hl (by rw [h]))]
def credB (x : Int) : Bool := decide (0 ≤ x ∧ x ≤ 30)
def areCr (l : List Int) : Bool := decide (l.length = 3) && l.all credB
def crB (a b : List Int) : Bool := areCr a && areCr b
theorem notCred_eq (x : Int) : impl_areCredits_1.f x = some (!credB x) := by
  unfold impl_areCredits_1.f
  rw [within_eq]
  rfl
theorem cCred_l0 (l : List (Int)) (hl : l.length ≤ 1048576) (d : Nat) : ∀ i : Nat, i + d = l.length → ∀ k, 0 + d < k → ∃ r, slices_IndexFunc_int_int__impl_areCredits_1.l0 k l (l.length : Int) (i : Int) = some r ∧ decide (r ≥ 0) = (l.drop i).any (fun x => !credB x) := by
  induction d with
  | zero =>
    intro i hi k hk
    obtain ⟨k, rfl⟩ : ∃ m, k = m + 1 := ⟨k - 1, by omega⟩
    refine ⟨-1, ?_, ?_⟩
    · simp only [slices_IndexFunc_int_int__impl_areCredits_1.l0]
      rw [if_neg (show ¬ (i : Int) < (l.length : Int) by omega)]
    · rw [drop_all l i (by omega)]; rfl
  | succ d ih =>
    intro i hi k hk
    obtain ⟨k, rfl⟩ : ∃ m, k = m + 1 := ⟨k - 1, by omega⟩
    have hlt : i < l.length := by omega
    simp only [slices_IndexFunc_int_int__impl_areCredits_1.l0]
    rw [if_pos (show (i : Int) < (l.length : Int) by omega), if_pos (show (0 : Int) ≤ (i : Int) by omega), if_pos (show (i : Int) < (l.length : Int) by omega), rd_lt l i hlt, notCred_eq l[i]]
    simp only [Option.bind_some]
    by_cases hp : (fun x => !credB x) l[i] = true
    · rw [if_pos hp]
      exact ⟨_, rfl, by rw [any_drop_yes l i hlt _ hp, decide_eq_true (by omega)]⟩
    · rw [if_neg hp, wrap_succ i (by omega)]
      obtain ⟨r, h1, h2⟩ := ih (i + 1) (by omega) k (by omega)
      exact ⟨r, h1, by rw [h2, any_drop_no l i hlt _ hp]⟩
theorem cCred_ev (l : List (Int)) (hl : l.length ≤ 1048576) (k : Nat) (hk : 0 + l.length < k) : slices_ContainsFunc_int_int__impl_areCredits_1.f k l = some (l.any (fun x => !credB x)) := by
  obtain ⟨r, h1, h2⟩ := cCred_l0 l hl l.length 0 (by omega) k hk
  unfold slices_ContainsFunc_int_int__impl_areCredits_1.f slices_IndexFunc_int_int__impl_areCredits_1.f
  have c0 : ((0 : Nat) : Int) = 0 := rfl
  rw [c0] at h1
  rw [h1]
  simp only [Option.bind_some]
  rw [h2]; rfl
theorem iAreCredits_ev (l : List Int) (k : Nat) (hk : 3 < k) : impl_areCredits.f k l = some (areCr l) := by
  unfold impl_areCredits.f areCr
  by_cases h : (l.length : Int) = 3
  · rw [if_pos h, cCred_ev l (by omega) k (by omega)]
    simp only [Option.bind_some]
    rw [any_not, decide_eq_true (show l.length = 3 by omega), Bool.true_and]
  · rw [if_neg h, decide_eq_false (show ¬ l.length = 3 by omega), Bool.false_and]
theorem iCreditsOk_ev (a b : List Int) (k : Nat) (hk : 3 < k) : impl_CreditsOk.f k a b = some (crB a b) := by
  unfold impl_CreditsOk.f crB
  rw [iAreCredits_ev a k hk, iAreCredits_ev b k hk]
  cases areCr a <;> simp
theorem three {l : List Int} (h : l.length = 3) : ∃ x y z, l = [x, y, z] := by
  match l, h with
  | [x, y, z], _ => exact ⟨x, y, z, rfl⟩
theorem sCreditsOk_ev (a b : List Int) (k : Nat) (hk : 5 < k) : spec_CreditsOk.f k a b = some (crB a b) := by
  obtain ⟨k, rfl⟩ : ∃ m, k = m + 5 := ⟨k - 5, by omega⟩
  unfold spec_CreditsOk.f crB areCr
  by_cases ha : a.length = 3
  · by_cases hb : b.length = 3
    · obtain ⟨x, y, z, rfl⟩ := three ha
      obtain ⟨u, v, w, rfl⟩ := three hb
      have r0 : ∀ p q r : Int, rd [p, q, r] 0 = p := fun _ _ _ => rfl
      have r1 : ∀ p q r : Int, rd [p, q, r] 1 = q := fun _ _ _ => rfl
      have r2 : ∀ p q r : Int, rd [p, q, r] 2 = r := fun _ _ _ => rfl
      have w0 : wrap64 (0 + 1) = 1 := by rw [wrap_id _ (by omega)]; rfl
      have w1 : wrap64 (1 + 1) = 2 := by rw [wrap_id _ (by omega)]; rfl
      have w2 : wrap64 (2 + 1) = 3 := by rw [wrap_id _ (by omega)]; rfl
      have e : ∀ t : Int, spec_l01In.f t 0 30 = some (credB t) := fun t => l01In_eq _ _ _
      simp only [spec_CreditsOk.j0, spec_CreditsOk.l0, r0, r1, r2, w0, w1, w2, e, Option.bind_some, List.length_cons, List.length_nil, List.all_cons, List.all_nil]
      cases credB x <;> cases credB y <;> cases credB z <;> cases credB u <;> cases credB v <;> cases credB w <;> simp
    · rw [if_pos (by omega), decide_eq_false hb]
      simp only [spec_CreditsOk.j0]
      rw [if_pos (by simp; omega)]
      simp
  · rw [if_neg (by omega), decide_eq_false ha]
    simp [spec_CreditsOk.j0]
theorem toCredits_ev (a b : List Int) (ha : a.length ≤ 1048576) (hb : b.length ≤ 1048576) (k : Nat) (hk : 1048576 < k) : laws_toCredits.f k a b = some (a, b) := by
  unfold laws_toCredits.f
  rw [toIntS_ev a ha k (by omega), toIntS_ev b hb k (by omega)]
  rfl
theorem eqCredits_ev (a b : List Int) (ha : a.length ≤ 1048576) (hb : b.length ≤ 1048576) (k : Nat) (hk : 1048576 < k) : laws_eqCredits.f k a b a b = some true := by
  unfold laws_eqCredits.f
  rw [eqIntS_ev a a (by omega) k (by omega), eqIntS_ev b b (by omega) k (by omega)]
  simp
theorem FnExactCreditsOk : laws_FnExactCreditsOk.Pure := by
  intro a b ⟨ha, _⟩ ⟨hb, _⟩
  obtain ⟨r, h1, hr⟩ := szCredits_eq a b 1048576 (by omega) (by omega) ha hb
  refine ⟨1048590, ?_⟩
  unfold laws_FnExactCreditsOk.f
  rw [h1]
  simp only [Option.bind_some]
  by_cases h0 : r < 0
  · rw [if_pos h0]
  have hr := hr (by omega)
  rw [if_neg h0, toCredits_ev a b (by omega) (by omega) _ (by omega)]
  simp only [Option.bind_some]
  rw [sCreditsOk_ev a b _ (by omega), iCreditsOk_ev a b _ (by omega)]
  simp only [Option.bind_some]
  rw [eqCredits_ev a b (by omega) (by omega) _ (by omega)]
  simp

end Go.Proofs.Ytkapncihoabnmaa.Pure
