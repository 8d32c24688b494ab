/- The statement FnExactTellCredits over lists: the program tells the sender of a channel of free room as the reference does, leaves what it is given, and hands back memory of its own. What is larger than the law's own bound is let by, as the law itself does. -/
import Derived.Test.YtlombfmebinjbaaPFnExactTellCreditsx21
import Derived.Test.YtlombfmebinjbaaV2Lists
namespace Go.Proofs.Ytlombfmebinjbaa.Pure
set_option linter.unusedVariables false
set_option linter.unusedSimpArgs false
open Go.RowKit Go.Proofs.Ytlombfmebinjbaa.PFnExactTellCredits Go.Proofs.YtlombfmebinjbaaW.PrintWords Go.Proofs.YtlombfmebinjbaaW.PrintLast Go.Proofs.YtlombfmebinjbaaW.PrintMore Go.Proofs.YtlombfmebinjbaaX

theorem within_eq (a l m : Int) : impl_within.f a l m = some (decide (l ≤ a ∧ a ≤ m)) := by
  unfold impl_within.f
  by_cases h : a ≥ l
  · have h' : l ≤ a := h
    rw [if_pos h]; simp [h']
  · have h' : ¬ l ≤ a := h
    rw [if_neg h]; simp [h']
theorem l01In_eq (a l m : Int) : spec_l01In.f a l m = some (decide (l ≤ a ∧ a ≤ m)) := by
  unfold spec_l01In.f
  by_cases h : a ≥ l
  · have h' : l ≤ a := h
    rw [if_pos h]; simp [h']
  · have h' : ¬ l ≤ a := h
    rw [if_neg h]; simp [h']
theorem any_not {α : Type} (l : List α) (p : α → Bool) : (!l.any fun x => !p x) = l.all p := by
  induction l with
  | nil => rfl
  | cons a l ih => rw [List.any_cons, List.all_cons, Bool.not_or, ih, Bool.not_not]
theorem szIntS_eq (l : List Int) (left : Int) (h0 : 0 ≤ left) (h1 : left ≤ 1048576) (hl : l.length ≤ 9223372036854775807) : laws_szIntS.f l left = some (if left < l.length then -1 else left - l.length) := by
  unfold laws_szIntS.f
  rw [wrap_id _ (by omega)]
  by_cases h : left < l.length
  · rw [if_pos (by omega), if_pos h]
  · rw [if_neg (by omega), if_neg h]
/-- What is left behind a pair of credits: less than nothing, or the room that both take. -/
theorem szCredits_eq (a b : List Int) (left : Int) (h0 : 0 ≤ left) (h1 : left ≤ 1048576) (ha : a.length ≤ 9223372036854775807) (hb : b.length ≤ 9223372036854775807) :
    ∃ r, (∀ k : Nat, laws_szCredits.f k a b left = some r) ∧ (0 ≤ r → r = left - a.length - b.length) := by
  suffices hs : ∃ r, laws_szCredits.f 0 a b left = some r ∧ (0 ≤ r → r = left - a.length - b.length) from by
    obtain ⟨r, h1, h2⟩ := hs
    exact ⟨r, fun _ => h1, h2⟩
  unfold laws_szCredits.f
  rw [szIntS_eq a left h0 h1 ha]
  simp only [Option.bind_some]
  by_cases hx : left < a.length
  · rw [if_pos hx, if_pos (by omega)]
    exact ⟨_, rfl, fun h => by omega⟩
  · rw [if_neg hx, if_neg (by omega), szIntS_eq b _ (by omega) (by omega) hb]
    simp only [Option.bind_some]
    by_cases hy : left - a.length < b.length
    · rw [if_pos hy, if_pos (by omega)]
      exact ⟨_, rfl, fun h => by omega⟩
    · rw [if_neg hy, if_neg (by omega)]
      exact ⟨_, rfl, fun _ => rfl⟩
theorem toIntS_l0 (l : List Int) (hb : l.length ≤ 1048576) (d : Nat) : ∀ (x : List Int) (i : Nat), x.length = l.length → x.take i = l.take i → i + d = l.length → ∀ k, d < k → laws_toIntS.l0 k l x (i : Int) = some l := by
  induction d with
  | zero =>
    intro x i hx ht hi k hk
    obtain ⟨k, rfl⟩ : ∃ m, k = m + 1 := ⟨k - 1, by omega⟩
    simp only [laws_toIntS.l0]
    rw [if_neg (show ¬ (i : Int) < (l.length : Int) by omega), fill_end x l i hx (by omega) ht]
  | succ d ih =>
    intro x i hx ht hi k hk
    obtain ⟨k, rfl⟩ : ∃ m, k = m + 1 := ⟨k - 1, by omega⟩
    simp only [laws_toIntS.l0]
    rw [if_pos (show (i : Int) < (l.length : Int) by omega), if_pos (show (0 : Int) ≤ (i : Int) by omega), if_pos (show (i : Int) < (x.length : Int) by omega), wrap_succ i (by omega), toNat_nat, rd_lt l i (by omega)]
    exact ih _ (i + 1) (by simp [hx]) (fill_step x l i _ (by omega) (by omega) ht rfl) (by omega) k (by omega)
theorem toIntS_ev (l : List Int) (hb : l.length ≤ 1048576) : ∀ k, l.length < k → laws_toIntS.f k l = some l := by
  intro k hk
  unfold laws_toIntS.f
  rw [if_pos (by omega), if_pos (by omega)]
  exact toIntS_l0 l hb l.length _ 0 (by simp) (by simp) (by omega) k hk
theorem eqIntS_l0 (a b : List Int) (hl : a.length = b.length) (hb : a.length < 9223372036854775807) (d : Nat) : ∀ (i : Nat), i + d = a.length → ∀ k, d < k → laws_eqIntS.l0 k a b (i : Int) = some (decide (a.drop i = b.drop i)) := by
  induction d with
  | zero =>
    intro i hi k hk
    obtain ⟨k, rfl⟩ : ∃ m, k = m + 1 := ⟨k - 1, by omega⟩
    simp only [laws_eqIntS.l0]
    rw [if_neg (show ¬ (i : Int) < (a.length : Int) by omega), drop_all a i (by omega), drop_all b i (by omega)]
    simp
  | succ d ih =>
    intro i hi k hk
    obtain ⟨k, rfl⟩ : ∃ m, k = m + 1 := ⟨k - 1, by omega⟩
    simp only [laws_eqIntS.l0]
    rw [if_pos (show (i : Int) < (a.length : Int) by omega), if_pos (show (0 : Int) ≤ (i : Int) by omega), if_pos (show (i : Int) < (b.length : Int) by omega)]
    by_cases he : rd a (i : Int) = rd b (i : Int)
    · rw [if_pos he, wrap_succ i (by omega), ih (i + 1) (by omega) k (by omega)]
      congr 1
      rw [decide_eq_decide, drop_eq_iff a b i (by omega) (by omega)]
      exact ⟨fun h => ⟨he, h⟩, fun h => h.2⟩
    · rw [if_neg he]
      congr 1
      symm
      rw [decide_eq_false_iff_not, drop_eq_iff a b i (by omega) (by omega)]
      exact fun h => he h.1
theorem eqIntS_ev (a b : List Int) (hb : a.length < 9223372036854775807) : ∀ k, a.length < k → laws_eqIntS.f k a b = some (decide (a = b)) := by
  intro k hk
  unfold laws_eqIntS.f
  by_cases hl : a.length = b.length
  · rw [if_pos (by omega)]
    exact eqIntS_l0 a b hl hb a.length 0 (by omega) k hk
  · rw [if_neg (by omega), decide_eq_false (fun h => hl (by rw [h]))]
theorem l04Ints_l0 (a b : List Int) (hl : a.length = b.length) (hb : a.length < 9223372036854775807) (d : Nat) : ∀ (i : Nat), i + d = a.length → ∀ k, d < k → spec_l04Ints.l0 k a b (i : Int) = some (decide (a.drop i = b.drop i)) := by
  induction d with
  | zero =>
    intro i hi k hk
    obtain ⟨k, rfl⟩ : ∃ m, k = m + 1 := ⟨k - 1, by omega⟩
    simp only [spec_l04Ints.l0]
    rw [if_neg (show ¬ (i : Int) < (a.length : Int) by omega), drop_all a i (by omega), drop_all b i (by omega)]
    simp
  | succ d ih =>
    intro i hi k hk
    obtain ⟨k, rfl⟩ : ∃ m, k = m + 1 := ⟨k - 1, by omega⟩
    simp only [spec_l04Ints.l0]
    rw [if_pos (show (i : Int) < (a.length : Int) by omega), if_pos (show (0 : Int) ≤ (i : Int) by omega), if_pos (show (i : Int) < (b.length : Int) by omega)]
    by_cases he : rd a (i : Int) = rd b (i : Int)
    · rw [if_pos he, wrap_succ i (by omega), ih (i + 1) (by omega) k (by omega)]
      congr 1
      rw [decide_eq_decide, drop_eq_iff a b i (by omega) (by omega)]
      exact ⟨fun h => ⟨he, h⟩, fun h => h.2⟩
    · rw [if_neg he]
      congr 1
      symm
      rw [decide_eq_false_iff_not, drop_eq_iff a b i (by omega) (by omega)]
      exact fun h => he h.1
theorem l04Ints_ev (a b : List Int) (hb : a.length < 9223372036854775807) : ∀ k, a.length < k → spec_l04Ints.f k a b = some (decide (a = b)) := by
  intro k hk
  unfold spec_l04Ints.f
  by_cases hl : a.length = b.length
  · rw [if_pos (by omega)]
    exact l04Ints_l0 a b hl hb a.length 0 (by omega) k hk
  · rw [if_neg (by omega), decide_eq_false (fun h => hl (by rw [h]))]
theorem equal_l0 (a b : List Int) (hl : a.length = b.length) (hb : a.length < 9223372036854775807) (d : Nat) : ∀ (i : Nat), i + d = a.length → ∀ k, d < k → slices_Equal_int_int.l0 k a b (((a.length : Nat) : Int)) (i : Int) = some (decide (a.drop i = b.drop i)) := by
  induction d with
  | zero =>
    intro i hi k hk
    obtain ⟨k, rfl⟩ : ∃ m, k = m + 1 := ⟨k - 1, by omega⟩
    simp only [slices_Equal_int_int.l0]
    rw [if_neg (show ¬ (i : Int) < (a.length : Int) by omega), drop_all a i (by omega), drop_all b i (by omega)]
    simp
  | succ d ih =>
    intro i hi k hk
    obtain ⟨k, rfl⟩ : ∃ m, k = m + 1 := ⟨k - 1, by omega⟩
    simp only [slices_Equal_int_int.l0]
    rw [if_pos (show (i : Int) < (a.length : Int) by omega), if_pos (show (0 : Int) ≤ (i : Int) by omega), if_pos (show (i : Int) < (a.length : Int) by omega), if_pos (show (i : Int) < (b.length : Int) by omega)]
    by_cases he : rd a (i : Int) = rd b (i : Int)
    · rw [if_pos he, wrap_succ i (by omega), ih (i + 1) (by omega) k (by omega)]
      congr 1
      rw [decide_eq_decide, drop_eq_iff a b i (by omega) (by omega)]
      exact ⟨fun h => ⟨he, h⟩, fun h => h.2⟩
    · rw [if_neg he]
      congr 1
      symm
      rw [decide_eq_false_iff_not, drop_eq_iff a b i (by omega) (by omega)]
      exact fun h => he h.1
theorem equal_ev (a b : List Int) (hb : a.length < 9223372036854775807) : ∀ k, a.length < k → slices_Equal_int_int.f k a b = some (decide (a = b)) := by
  intro k hk
  unfold slices_Equal_int_int.f
  by_cases hl : a.length = b.length
  · rw [if_pos (by omega)]
    exact equal_l0 a b hl hb a.length 0 (by omega) k hk
  · rw [if_neg (by omega), decide_eq_false (fun h => hl (by rw [h]))]
def credB (x : Int) : Bool := decide (0 ≤ x ∧ x ≤ 30)
def areCr (l : List Int) : Bool := decide (l.length = 3) && l.all credB
def crB (a b : List Int) : Bool := areCr a && areCr b
theorem notCred_eq (x : Int) : impl_areCredits_1.f x = some (!credB x) := by
  unfold impl_areCredits_1.f
  rw [within_eq]
  rfl
theorem cCred_l0 (l : List (Int)) (hl : l.length ≤ 1048576) (d : Nat) : ∀ i : Nat, i + d = l.length → ∀ k, 0 + d < k → ∃ r, slices_IndexFunc_int_int__impl_areCredits_1.l0 k l (l.length : Int) (i : Int) = some r ∧ decide (r ≥ 0) = (l.drop i).any (fun x => !credB x) := by
  induction d with
  | zero =>
    intro i hi k hk
    obtain ⟨k, rfl⟩ : ∃ m, k = m + 1 := ⟨k - 1, by omega⟩
    refine ⟨-1, ?_, ?_⟩
    · simp only [slices_IndexFunc_int_int__impl_areCredits_1.l0]
      rw [if_neg (show ¬ (i : Int) < (l.length : Int) by omega)]
    · rw [drop_all l i (by omega)]; rfl
  | succ d ih =>
    intro i hi k hk
    obtain ⟨k, rfl⟩ : ∃ m, k = m + 1 := ⟨k - 1, by omega⟩
    have hlt : i < l.length := by omega
    simp only [slices_IndexFunc_int_int__impl_areCredits_1.l0]
    rw [if_pos (show (i : Int) < (l.length : Int) by omega), if_pos (show (0 : Int) ≤ (i : Int) by omega), if_pos (show (i : Int) < (l.length : Int) by omega), rd_lt l i hlt, notCred_eq l[i]]
    simp only [Option.bind_some]
    by_cases hp : (fun x => !credB x) l[i] = true
    · rw [if_pos hp]
      exact ⟨_, rfl, by rw [any_drop_yes l i hlt _ hp, decide_eq_true (by omega)]⟩
    · rw [if_neg hp, wrap_succ i (by omega)]
      obtain ⟨r, h1, h2⟩ := ih (i + 1) (by omega) k (by omega)
      exact ⟨r, h1, by rw [h2, any_drop_no l i hlt _ hp]⟩
theorem cCred_ev (l : List (Int)) (hl : l.length ≤ 1048576) (k : Nat) (hk : 0 + l.length < k) : slices_ContainsFunc_int_int__impl_areCredits_1.f k l = some (l.any (fun x => !credB x)) := by
  obtain ⟨r, h1, h2⟩ := cCred_l0 l hl l.length 0 (by omega) k hk
  unfold slices_ContainsFunc_int_int__impl_areCredits_1.f slices_IndexFunc_int_int__impl_areCredits_1.f
  have c0 : ((0 : Nat) : Int) = 0 := rfl
  rw [c0] at h1
  rw [h1]
  simp only [Option.bind_some]
  rw [h2]; rfl
theorem iAreCredits_ev (l : List Int) (k : Nat) (hk : 3 < k) : impl_areCredits.f k l = some (areCr l) := by
  unfold impl_areCredits.f areCr
  by_cases h : (l.length : Int) = 3
  · rw [if_pos h, cCred_ev l (by omega) k (by omega)]
    simp only [Option.bind_some]
    rw [any_not, decide_eq_true (show l.length = 3 by omega), Bool.true_and]
  · rw [if_neg h, decide_eq_false (show ¬ l.length = 3 by omega), Bool.false_and]
theorem iCreditsOk_ev (a b : List Int) (k : Nat) (hk : 3 < k) : impl_CreditsOk.f k a b = some (crB a b) := by
  unfold impl_CreditsOk.f crB
  rw [iAreCredits_ev a k hk, iAreCredits_ev b k hk]
  cases areCr a <;> simp
theorem three {l : List Int} (h : l.length = 3) : ∃ x y z, l = [x, y, z] := by
  match l, h with
  | [x, y, z], _ => exact ⟨x, y, z, rfl⟩
theorem sCreditsOk_ev (a b : List Int) (k : Nat) (hk : 5 < k) : spec_CreditsOk.f k a b = some (crB a b) := by
  obtain ⟨k, rfl⟩ : ∃ m, k = m + 5 := ⟨k - 5, by omega⟩
  unfold spec_CreditsOk.f crB areCr
  by_cases ha : a.length = 3
  · by_cases hb : b.length = 3
    · obtain ⟨x, y, z, rfl⟩ := three ha
      obtain ⟨u, v, w, rfl⟩ := three hb
      have r0 : ∀ p q r : Int, rd [p, q, r] 0 = p := fun _ _ _ => rfl
      have r1 : ∀ p q r : Int, rd [p, q, r] 1 = q := fun _ _ _ => rfl
      have r2 : ∀ p q r : Int, rd [p, q, r] 2 = r := fun _ _ _ => rfl
      have w0 : wrap64 (0 + 1) = 1 := by rw [wrap_id _ (by omega)]; rfl
      have w1 : wrap64 (1 + 1) = 2 := by rw [wrap_id _ (by omega)]; rfl
      have w2 : wrap64 (2 + 1) = 3 := by rw [wrap_id _ (by omega)]; rfl
      have e : ∀ t : Int, spec_l01In.f t 0 30 = some (credB t) := fun t => l01In_eq _ _ _
      simp only [spec_CreditsOk.j0, spec_CreditsOk.l0, r0, r1, r2, w0, w1, w2, e, Option.bind_some, List.length_cons, List.length_nil, List.all_cons, List.all_nil]
      cases credB x <;> cases credB y <;> cases credB z <;> cases credB u <;> cases credB v <;> cases credB w <;> simp
    · rw [if_pos (by omega), decide_eq_false hb]
      simp only [spec_CreditsOk.j0]
      rw [if_pos (by simp; omega)]
      simp
  · rw [if_neg (by omega), decide_eq_false ha]
    simp [spec_CreditsOk.j0]
theorem toCredits_ev (a b : List Int) (ha : a.length ≤ 1048576) (hb : b.length ≤ 1048576) (k : Nat) (hk : 1048576 < k) : laws_toCredits.f k a b = some (a, b) := by
  unfold laws_toCredits.f
  rw [toIntS_ev a ha k (by omega), toIntS_ev b hb k (by omega)]
  rfl
theorem eqCredits_ev (a b : List Int) (ha : a.length ≤ 1048576) (hb : b.length ≤ 1048576) (k : Nat) (hk : 1048576 < k) : laws_eqCredits.f k a b a b = some true := by
  unfold laws_eqCredits.f
  rw [eqIntS_ev a a (by omega) k (by omega), eqIntS_ev b b (by omega) k (by omega)]
  simp
def wordB (x : Int) : Bool := decide (0 ≤ x ∧ x ≤ 65535)
/-- A valid packet, kind by kind: its words are words (W), and it has m of them. -/
def pkQ (K f t a n g s : Int) (W : Bool) (m : Int) : Prop := (0 ≤ f ∧ f ≤ 255) ∧ W = true ∧
  ((K = 1 ∧ 1 ≤ m ∧ m ≤ 8 ∧ 0 ≤ a ∧ a ≤ 65536 - m ∧ s = 0 ∧ t = 0 ∧ n = 0 ∧ g = 0) ∨
   (K = 2 ∧ 1 ≤ m ∧ m ≤ 8 ∧ a = 0 ∧ s = 0 ∧ t = 0 ∧ n = 0 ∧ g = 0) ∨
   (K = 3 ∧ m = 0 ∧ 1 ≤ n ∧ n ≤ 64 ∧ 0 ≤ a ∧ a ≤ 65536 - n ∧ 0 ≤ g ∧ g ≤ 7 ∧ s = 0 ∧ t = 0) ∨
   (K = 4 ∧ m = 0 ∧ 0 ≤ a ∧ a ≤ 63 ∧ 0 ≤ t ∧ t ≤ 255 ∧ 0 ≤ g ∧ g ≤ 7 ∧ s = 0 ∧ n = 0) ∨
   (K = 5 ∧ m = 1 ∧ 0 ≤ a ∧ a ≤ 63 ∧ 0 ≤ t ∧ t ≤ 255 ∧ 0 ≤ g ∧ g ≤ 7 ∧ s = 0 ∧ n = 0) ∨
   (K = 6 ∧ a = 0 ∧ 0 ≤ t ∧ t ≤ 255 ∧ 0 ≤ g ∧ g ≤ 7 ∧ 0 ≤ s ∧ s ≤ 2 ∧ 0 ≤ n ∧ n ≤ 64 ∧ (m = 0 ∨ s = 0 ∧ m ≤ 8 ∧ m ≤ n)))
instance (K f t a n g s : Int) (W : Bool) (m : Int) : Decidable (pkQ K f t a n g s W m) := by unfold pkQ; infer_instance
def pkB (K f t a n g s : Int) (l : List Int) : Bool := decide (pkQ K f t a n g s (l.all wordB) (l.length : Int))
/-- Whether the data fit to the kind, as the program asks it. -/
def dataQ (K n s : Int) (m : Int) : Prop := (K = 1 ∨ K = 2) ∧ 1 ≤ m ∧ m ≤ 8 ∨ K = 5 ∧ m = 1 ∨ K = 6 ∧ s = 0 ∧ m ≤ 8 ∧ m ≤ n ∨ (K ≠ 1 ∧ K ≠ 2 ∧ K ≠ 5 ∧ ¬ (K = 6 ∧ s = 0)) ∧ m = 0
instance (K n s m : Int) : Decidable (dataQ K n s m) := by unfold dataQ; infer_instance
theorem sWords_l0 (l : List (Int)) (hl : l.length ≤ 1048576) (d : Nat) : ∀ i : Nat, i + d = l.length → ∀ k, 0 + d < k → spec_l04Words.l0 k l (i : Int) = some ((l.drop i).all wordB && true) := by
  induction d with
  | zero =>
    intro i hi k hk
    obtain ⟨k, rfl⟩ : ∃ m, k = m + 1 := ⟨k - 1, by omega⟩
    simp only [spec_l04Words.l0]
    rw [if_neg (show ¬ (i : Int) < (l.length : Int) by omega), drop_all l i (by omega)]
    simp
  | succ d ih =>
    intro i hi k hk
    obtain ⟨k, rfl⟩ : ∃ m, k = m + 1 := ⟨k - 1, by omega⟩
    have hlt : i < l.length := by omega
    simp only [spec_l04Words.l0]
    rw [if_pos (show (i : Int) < (l.length : Int) by omega), if_pos (show (0 : Int) ≤ (i : Int) by omega), rd_lt l i hlt, show spec_l01In.f l[i] 0 65535 = some (wordB l[i]) from l01In_eq _ _ _]
    simp only [Option.bind_some]
    by_cases hp : wordB l[i] = true
    · rw [if_pos hp, wrap_succ i (by omega), ih (i + 1) (by omega) k (by omega), drop_cons l i hlt, List.all_cons, hp, Bool.true_and]
    · rw [if_neg hp, drop_cons l i hlt, List.all_cons, Bool.eq_false_iff.mpr hp, Bool.false_and, Bool.false_and]
theorem sWords_ev (l : List Int) (hl : l.length ≤ 1048576) (k : Nat) (hk : l.length < k) : spec_l04Words.f k l = some (l.all wordB) := by
  have h := sWords_l0 l hl l.length 0 (by omega) k (by omega)
  rw [Bool.and_true] at h
  exact h
theorem notWord_eq (x : Int) : impl_Packet_dataOk_1.f x = some (!wordB x) := by
  unfold impl_Packet_dataOk_1.f impl_isWord.f
  rw [within_eq]
  rfl
theorem cWords_l0 (l : List (Int)) (hl : l.length ≤ 1048576) (d : Nat) : ∀ i : Nat, i + d = l.length → ∀ k, 0 + d < k → ∃ r, slices_IndexFunc_int_int__impl_Packet__dataOk_1.l0 k l (l.length : Int) (i : Int) = some r ∧ decide (r ≥ 0) = (l.drop i).any (fun x => !wordB x) := by
  induction d with
  | zero =>
    intro i hi k hk
    obtain ⟨k, rfl⟩ : ∃ m, k = m + 1 := ⟨k - 1, by omega⟩
    refine ⟨-1, ?_, ?_⟩
    · simp only [slices_IndexFunc_int_int__impl_Packet__dataOk_1.l0]
      rw [if_neg (show ¬ (i : Int) < (l.length : Int) by omega)]
    · rw [drop_all l i (by omega)]; rfl
  | succ d ih =>
    intro i hi k hk
    obtain ⟨k, rfl⟩ : ∃ m, k = m + 1 := ⟨k - 1, by omega⟩
    have hlt : i < l.length := by omega
    simp only [slices_IndexFunc_int_int__impl_Packet__dataOk_1.l0]
    rw [if_pos (show (i : Int) < (l.length : Int) by omega), if_pos (show (0 : Int) ≤ (i : Int) by omega), if_pos (show (i : Int) < (l.length : Int) by omega), rd_lt l i hlt, notWord_eq l[i]]
    simp only [Option.bind_some]
    by_cases hp : (fun x => !wordB x) l[i] = true
    · rw [if_pos hp]
      exact ⟨_, rfl, by rw [any_drop_yes l i hlt _ hp, decide_eq_true (by omega)]⟩
    · rw [if_neg hp, wrap_succ i (by omega)]
      obtain ⟨r, h1, h2⟩ := ih (i + 1) (by omega) k (by omega)
      exact ⟨r, h1, by rw [h2, any_drop_no l i hlt _ hp]⟩
theorem cWords_ev (l : List (Int)) (hl : l.length ≤ 1048576) (k : Nat) (hk : 0 + l.length < k) : slices_ContainsFunc_int_int__impl_Packet__dataOk_1.f k l = some (l.any (fun x => !wordB x)) := by
  obtain ⟨r, h1, h2⟩ := cWords_l0 l hl l.length 0 (by omega) k hk
  unfold slices_ContainsFunc_int_int__impl_Packet__dataOk_1.f slices_IndexFunc_int_int__impl_Packet__dataOk_1.f
  have c0 : ((0 : Nat) : Int) = 0 := rfl
  rw [c0] at h1
  rw [h1]
  simp only [Option.bind_some]
  rw [h2]; rfl
set_option maxHeartbeats 2000000 in
theorem sIsPacket_ev (K f t a n g s : Int) (l : List Int) (hl : l.length ≤ 1048576) (k : Nat) (hk : 1048580 < k) : spec_IsPacket.f k K f t a n g s l = some (pkB K f t a n g s l) := by
  obtain ⟨k, rfl⟩ : ∃ m, k = m + 1 := ⟨k - 1, by omega⟩
  unfold spec_IsPacket.f spec_IsId.f pkB
  rw [l01In_eq, sWords_ev l hl _ (by omega)]
  simp only [Option.bind_some, l01In_eq, spec_IsId.f, spec_l04Zero.f, Bool.false_eq_true, if_false, if_true, decide_eq_true_eq, Bool.not_eq_true']
  have hm : (0 : Int) ≤ (l.length : Int) ∧ (l.length : Int) ≤ 1048576 := by omega
  generalize (l.length : Int) = m at hm ⊢
  generalize l.all wordB = W
  by_cases hf : 0 ≤ f ∧ f ≤ 255
  case neg => rw [if_neg hf]; congr 1; symm; rw [decide_eq_false_iff_not]; unfold pkQ; exact fun h => hf h.1
  rw [if_pos hf]
  cases W
  case false => rw [if_neg (by decide)]; congr 1; symm; rw [decide_eq_false_iff_not]; unfold pkQ; simp
  rw [if_pos rfl]
  have w1 : wrap64 (65536 - m) = 65536 - m := wrap_id _ (by omega)
  rw [w1]
  by_cases k1 : K = 1
  · subst k1
    simp only [Int.reduceEq, if_true, if_false, Option.bind_some]
    all_goals repeat' (first | split | (simp only [Option.bind_some]; split))
    all_goals ((try simp only [Option.bind_some]); congr 1; rw [Bool.eq_iff_iff]; (try simp only [beq_iff_eq, decide_eq_true_eq, Bool.and_eq_true, Bool.false_eq_true]); unfold pkQ; (try unfold dataQ); (try simp only [eq_self, Bool.false_eq_true, true_and, false_and, and_false, false_iff, true_iff, iff_false, iff_true, not_false_eq_true, not_true_eq_false]); first | done | omega | ((try simp only [le_mn]); omega) | ((try simp only [wrap64, beq_eq_false_iff_ne, bne_iff_ne, beq_iff_eq, ne_eq, decide_eq_false_iff_not, Decidable.not_not, true_or, or_true, true_and, not_true_eq_false, not_false_eq_true, false_and, and_false, and_true, or_false, false_or, iff_false, iff_true, false_iff, true_iff, Int.reduceEq] at *); (try simp only [le_mn] at *); first | done | omega))
  by_cases k2 : K = 2
  · subst k2
    simp only [Int.reduceEq, if_true, if_false, Option.bind_some]
    all_goals repeat' (first | split | (simp only [Option.bind_some]; split))
    all_goals ((try simp only [Option.bind_some]); congr 1; rw [Bool.eq_iff_iff]; (try simp only [beq_iff_eq, decide_eq_true_eq, Bool.and_eq_true, Bool.false_eq_true]); unfold pkQ; (try unfold dataQ); (try simp only [eq_self, Bool.false_eq_true, true_and, false_and, and_false, false_iff, true_iff, iff_false, iff_true, not_false_eq_true, not_true_eq_false]); first | done | omega | ((try simp only [le_mn]); omega) | ((try simp only [wrap64, beq_eq_false_iff_ne, bne_iff_ne, beq_iff_eq, ne_eq, decide_eq_false_iff_not, Decidable.not_not, true_or, or_true, true_and, not_true_eq_false, not_false_eq_true, false_and, and_false, and_true, or_false, false_or, iff_false, iff_true, false_iff, true_iff, Int.reduceEq] at *); (try simp only [le_mn] at *); first | done | omega))
  by_cases k3 : K = 3
  · subst k3
    simp only [Int.reduceEq, if_true, if_false, Option.bind_some]
    by_cases hn : 1 ≤ n ∧ n ≤ 64
    · rw [wrap_id (65536 - n) (by omega)]
      repeat' (first | split | (simp only [Option.bind_some]; split))
      all_goals ((try simp only [Option.bind_some]); congr 1; rw [Bool.eq_iff_iff]; (try simp only [beq_iff_eq, decide_eq_true_eq, Bool.and_eq_true, Bool.false_eq_true]); unfold pkQ; (try unfold dataQ); (try simp only [eq_self, Bool.false_eq_true, true_and, false_and, and_false, false_iff, true_iff, iff_false, iff_true, not_false_eq_true, not_true_eq_false]); first | done | omega | ((try simp only [le_mn]); omega) | ((try simp only [wrap64, beq_eq_false_iff_ne, bne_iff_ne, beq_iff_eq, ne_eq, decide_eq_false_iff_not, Decidable.not_not, true_or, or_true, true_and, not_true_eq_false, not_false_eq_true, false_and, and_false, and_true, or_false, false_or, iff_false, iff_true, false_iff, true_iff, Int.reduceEq] at *); (try simp only [le_mn] at *); first | done | omega))
    simp only [hn, if_false]
    all_goals repeat' (first | split | (simp only [Option.bind_some]; split))
    all_goals ((try simp only [Option.bind_some]); congr 1; rw [Bool.eq_iff_iff]; (try simp only [beq_iff_eq, decide_eq_true_eq, Bool.and_eq_true, Bool.false_eq_true]); unfold pkQ; (try unfold dataQ); (try simp only [eq_self, Bool.false_eq_true, true_and, false_and, and_false, false_iff, true_iff, iff_false, iff_true, not_false_eq_true, not_true_eq_false]); first | done | omega | ((try simp only [le_mn]); omega) | ((try simp only [wrap64, beq_eq_false_iff_ne, bne_iff_ne, beq_iff_eq, ne_eq, decide_eq_false_iff_not, Decidable.not_not, true_or, or_true, true_and, not_true_eq_false, not_false_eq_true, false_and, and_false, and_true, or_false, false_or, iff_false, iff_true, false_iff, true_iff, Int.reduceEq] at *); (try simp only [le_mn] at *); first | done | omega))
  by_cases k4 : K = 4
  · subst k4
    simp only [Int.reduceEq, if_true, if_false, Option.bind_some]
    all_goals repeat' (first | split | (simp only [Option.bind_some]; split))
    all_goals ((try simp only [Option.bind_some]); congr 1; rw [Bool.eq_iff_iff]; (try simp only [beq_iff_eq, decide_eq_true_eq, Bool.and_eq_true, Bool.false_eq_true]); unfold pkQ; (try unfold dataQ); (try simp only [eq_self, Bool.false_eq_true, true_and, false_and, and_false, false_iff, true_iff, iff_false, iff_true, not_false_eq_true, not_true_eq_false]); first | done | omega | ((try simp only [le_mn]); omega) | ((try simp only [wrap64, beq_eq_false_iff_ne, bne_iff_ne, beq_iff_eq, ne_eq, decide_eq_false_iff_not, Decidable.not_not, true_or, or_true, true_and, not_true_eq_false, not_false_eq_true, false_and, and_false, and_true, or_false, false_or, iff_false, iff_true, false_iff, true_iff, Int.reduceEq] at *); (try simp only [le_mn] at *); first | done | omega))
  by_cases k5 : K = 5
  · subst k5
    simp only [Int.reduceEq, if_true, if_false, Option.bind_some]
    all_goals repeat' (first | split | (simp only [Option.bind_some]; split))
    all_goals ((try simp only [Option.bind_some]); congr 1; rw [Bool.eq_iff_iff]; (try simp only [beq_iff_eq, decide_eq_true_eq, Bool.and_eq_true, Bool.false_eq_true]); unfold pkQ; (try unfold dataQ); (try simp only [eq_self, Bool.false_eq_true, true_and, false_and, and_false, false_iff, true_iff, iff_false, iff_true, not_false_eq_true, not_true_eq_false]); first | done | omega | ((try simp only [le_mn]); omega) | ((try simp only [wrap64, beq_eq_false_iff_ne, bne_iff_ne, beq_iff_eq, ne_eq, decide_eq_false_iff_not, Decidable.not_not, true_or, or_true, true_and, not_true_eq_false, not_false_eq_true, false_and, and_false, and_true, or_false, false_or, iff_false, iff_true, false_iff, true_iff, Int.reduceEq] at *); (try simp only [le_mn] at *); first | done | omega))
  by_cases k6 : K = 6
  · subst k6
    simp only [Int.reduceEq, if_true, if_false, Option.bind_some]
    all_goals repeat' (first | split | (simp only [Option.bind_some]; split))
    all_goals ((try simp only [Option.bind_some]); congr 1; rw [Bool.eq_iff_iff]; (try simp only [beq_iff_eq, decide_eq_true_eq, Bool.and_eq_true, Bool.false_eq_true]); unfold pkQ; (try unfold dataQ); (try simp only [eq_self, Bool.false_eq_true, true_and, false_and, and_false, false_iff, true_iff, iff_false, iff_true, not_false_eq_true, not_true_eq_false]); first | done | omega | ((try simp only [le_mn]); omega) | ((try simp only [wrap64, beq_eq_false_iff_ne, bne_iff_ne, beq_iff_eq, ne_eq, decide_eq_false_iff_not, Decidable.not_not, true_or, or_true, true_and, not_true_eq_false, not_false_eq_true, false_and, and_false, and_true, or_false, false_or, iff_false, iff_true, false_iff, true_iff, Int.reduceEq] at *); (try simp only [le_mn] at *); first | done | omega))
  rw [if_neg k1, if_neg k2, if_neg k3, if_neg k4, if_neg k5, if_neg k6]
  ((try simp only [Option.bind_some]); congr 1; rw [Bool.eq_iff_iff]; (try simp only [beq_iff_eq, decide_eq_true_eq, Bool.and_eq_true, Bool.false_eq_true]); unfold pkQ; (try unfold dataQ); (try simp only [eq_self, Bool.false_eq_true, true_and, false_and, and_false, false_iff, true_iff, iff_false, iff_true, not_false_eq_true, not_true_eq_false]); first | done | omega | ((try simp only [le_mn]); omega) | ((try simp only [wrap64, beq_eq_false_iff_ne, bne_iff_ne, beq_iff_eq, ne_eq, decide_eq_false_iff_not, Decidable.not_not, true_or, or_true, true_and, not_true_eq_false, not_false_eq_true, false_and, and_false, and_true, or_false, false_or, iff_false, iff_true, false_iff, true_iff, Int.reduceEq] at *); (try simp only [le_mn] at *); first | done | omega))
theorem iDataOk_ev (K f t a n g s : Int) (l : List Int) (hl : l.length ≤ 1048576) (k : Nat) (hk : 1048580 < k) : impl_Packet_dataOk.f k K f t a n g s l = some (l.all wordB && decide (dataQ K n s (l.length : Int))) := by
  obtain ⟨k, rfl⟩ : ∃ m, k = m + 1 := ⟨k - 1, by omega⟩
  unfold impl_Packet_dataOk.f
  rw [cWords_ev l hl _ (by omega)]
  simp only [Option.bind_some, impl_Packet_dataOk.j0, within_eq, if_true]
  rw [← any_not l wordB]
  generalize (l.any fun x => !wordB x) = W
  generalize (l.length : Int) = m
  cases W
  all_goals simp only [Bool.false_eq_true, if_false, if_true, Bool.not_false, Bool.not_true, Bool.true_and, Bool.false_and, beq_iff_eq]
  all_goals repeat' split
  all_goals first | rfl | (congr 1; rw [Bool.eq_iff_iff]; simp only [beq_iff_eq, decide_eq_true_eq, Bool.false_eq_true, false_iff, true_iff]; unfold dataQ; omega)
set_option maxHeartbeats 2000000 in
theorem iIsPacket_ev (K f t a n g s : Int) (l : List Int) (hl : l.length ≤ 1048576) (k : Nat) (hk : 1048590 < k) : impl_IsPacket.f k K f t a n g s l = some (pkB K f t a n g s l) := by
  obtain ⟨k, rfl⟩ : ∃ m, k = m + 3 := ⟨k - 3, by omega⟩
  unfold impl_IsPacket.f impl_IsId.f impl_Packet_addressOk.f impl_Packet_lengthOk.f pkB
  simp only [Option.bind_some, within_eq, impl_Packet_addressOk.j0, impl_Packet_words.f, impl_IsId.f, iDataOk_ev K f t a n g s l hl _ (show 1048580 < k + 3 by omega), decide_eq_true_eq, Bool.not_eq_true', Bool.false_eq_true, if_false, if_true]
  have hm : (0 : Int) ≤ (l.length : Int) ∧ (l.length : Int) ≤ 1048576 := by omega
  generalize (l.length : Int) = m at hm ⊢
  generalize l.all wordB = W
  by_cases hf : 0 ≤ f ∧ f ≤ 255
  case neg =>
    simp only [hf, if_false, if_true, Bool.true_eq_false]
    have e : decide (pkQ K f t a n g s W m) = false := by rw [decide_eq_false_iff_not]; unfold pkQ; exact fun h => hf h.1
    rw [e]
    repeat' split
    all_goals rfl
  by_cases k1 : K = 1
  · subst k1
    simp only [Int.reduceEq, Int.reduceLE, Int.reduceBEq, hf, if_true, if_false, Option.bind_some, and_true, true_and, and_false, false_and, Bool.true_eq_false, Bool.false_eq_true]
    cases W
    all_goals repeat' (first | (simp only [Option.bind_some, decide_eq_true_eq, Bool.false_eq_true, if_false, if_true, Bool.false_and, Bool.true_and]) | split)
    all_goals ((try simp only [Option.bind_some]); congr 1; rw [Bool.eq_iff_iff]; (try simp only [beq_iff_eq, decide_eq_true_eq, Bool.and_eq_true, Bool.false_eq_true]); unfold pkQ; (try unfold dataQ); (try simp only [eq_self, Bool.false_eq_true, true_and, false_and, and_false, false_iff, true_iff, iff_false, iff_true, not_false_eq_true, not_true_eq_false]); first | done | omega | ((try simp only [le_mn]); omega) | ((try simp only [wrap64, beq_eq_false_iff_ne, bne_iff_ne, beq_iff_eq, ne_eq, decide_eq_false_iff_not, Decidable.not_not, true_or, or_true, true_and, not_true_eq_false, not_false_eq_true, false_and, and_false, and_true, or_false, false_or, iff_false, iff_true, false_iff, true_iff, Int.reduceEq] at *); (try simp only [le_mn] at *); first | done | omega))
  by_cases k2 : K = 2
  · subst k2
    simp only [Int.reduceEq, Int.reduceLE, Int.reduceBEq, hf, if_true, if_false, Option.bind_some, and_true, true_and, and_false, false_and, Bool.true_eq_false, Bool.false_eq_true]
    cases W
    all_goals repeat' (first | (simp only [Option.bind_some, decide_eq_true_eq, Bool.false_eq_true, if_false, if_true, Bool.false_and, Bool.true_and]) | split)
    all_goals ((try simp only [Option.bind_some]); congr 1; rw [Bool.eq_iff_iff]; (try simp only [beq_iff_eq, decide_eq_true_eq, Bool.and_eq_true, Bool.false_eq_true]); unfold pkQ; (try unfold dataQ); (try simp only [eq_self, Bool.false_eq_true, true_and, false_and, and_false, false_iff, true_iff, iff_false, iff_true, not_false_eq_true, not_true_eq_false]); first | done | omega | ((try simp only [le_mn]); omega) | ((try simp only [wrap64, beq_eq_false_iff_ne, bne_iff_ne, beq_iff_eq, ne_eq, decide_eq_false_iff_not, Decidable.not_not, true_or, or_true, true_and, not_true_eq_false, not_false_eq_true, false_and, and_false, and_true, or_false, false_or, iff_false, iff_true, false_iff, true_iff, Int.reduceEq] at *); (try simp only [le_mn] at *); first | done | omega))
  by_cases k3 : K = 3
  · subst k3
    simp only [Int.reduceEq, Int.reduceLE, Int.reduceBEq, hf, if_true, if_false, Option.bind_some, and_true, true_and, and_false, false_and, Bool.true_eq_false, Bool.false_eq_true]
    cases W
    all_goals repeat' (first | (simp only [Option.bind_some, decide_eq_true_eq, Bool.false_eq_true, if_false, if_true, Bool.false_and, Bool.true_and]) | split)
    all_goals ((try simp only [Option.bind_some]); congr 1; rw [Bool.eq_iff_iff]; (try simp only [beq_iff_eq, decide_eq_true_eq, Bool.and_eq_true, Bool.false_eq_true]); unfold pkQ; (try unfold dataQ); (try simp only [eq_self, Bool.false_eq_true, true_and, false_and, and_false, false_iff, true_iff, iff_false, iff_true, not_false_eq_true, not_true_eq_false]); first | done | omega | ((try simp only [le_mn]); omega) | ((try simp only [wrap64, beq_eq_false_iff_ne, bne_iff_ne, beq_iff_eq, ne_eq, decide_eq_false_iff_not, Decidable.not_not, true_or, or_true, true_and, not_true_eq_false, not_false_eq_true, false_and, and_false, and_true, or_false, false_or, iff_false, iff_true, false_iff, true_iff, Int.reduceEq] at *); (try simp only [le_mn] at *); first | done | omega))
  by_cases k4 : K = 4
  · subst k4
    simp only [Int.reduceEq, Int.reduceLE, Int.reduceBEq, hf, if_true, if_false, Option.bind_some, and_true, true_and, and_false, false_and, Bool.true_eq_false, Bool.false_eq_true]
    cases W
    all_goals repeat' (first | (simp only [Option.bind_some, decide_eq_true_eq, Bool.false_eq_true, if_false, if_true, Bool.false_and, Bool.true_and]) | split)
    all_goals ((try simp only [Option.bind_some]); congr 1; rw [Bool.eq_iff_iff]; (try simp only [beq_iff_eq, decide_eq_true_eq, Bool.and_eq_true, Bool.false_eq_true]); unfold pkQ; (try unfold dataQ); (try simp only [eq_self, Bool.false_eq_true, true_and, false_and, and_false, false_iff, true_iff, iff_false, iff_true, not_false_eq_true, not_true_eq_false]); first | done | omega | ((try simp only [le_mn]); omega) | ((try simp only [wrap64, beq_eq_false_iff_ne, bne_iff_ne, beq_iff_eq, ne_eq, decide_eq_false_iff_not, Decidable.not_not, true_or, or_true, true_and, not_true_eq_false, not_false_eq_true, false_and, and_false, and_true, or_false, false_or, iff_false, iff_true, false_iff, true_iff, Int.reduceEq] at *); (try simp only [le_mn] at *); first | done | omega))
  by_cases k5 : K = 5
  · subst k5
    simp only [Int.reduceEq, Int.reduceLE, Int.reduceBEq, hf, if_true, if_false, Option.bind_some, and_true, true_and, and_false, false_and, Bool.true_eq_false, Bool.false_eq_true]
    cases W
    all_goals repeat' (first | (simp only [Option.bind_some, decide_eq_true_eq, Bool.false_eq_true, if_false, if_true, Bool.false_and, Bool.true_and]) | split)
    all_goals ((try simp only [Option.bind_some]); congr 1; rw [Bool.eq_iff_iff]; (try simp only [beq_iff_eq, decide_eq_true_eq, Bool.and_eq_true, Bool.false_eq_true]); unfold pkQ; (try unfold dataQ); (try simp only [eq_self, Bool.false_eq_true, true_and, false_and, and_false, false_iff, true_iff, iff_false, iff_true, not_false_eq_true, not_true_eq_false]); first | done | omega | ((try simp only [le_mn]); omega) | ((try simp only [wrap64, beq_eq_false_iff_ne, bne_iff_ne, beq_iff_eq, ne_eq, decide_eq_false_iff_not, Decidable.not_not, true_or, or_true, true_and, not_true_eq_false, not_false_eq_true, false_and, and_false, and_true, or_false, false_or, iff_false, iff_true, false_iff, true_iff, Int.reduceEq] at *); (try simp only [le_mn] at *); first | done | omega))
  by_cases k6 : K = 6
  · subst k6
    simp only [Int.reduceEq, Int.reduceLE, Int.reduceBEq, hf, if_true, if_false, Option.bind_some, and_true, true_and, and_false, false_and, Bool.true_eq_false, Bool.false_eq_true]
    cases W
    all_goals repeat' (first | (simp only [Option.bind_some, decide_eq_true_eq, Bool.false_eq_true, if_false, if_true, Bool.false_and, Bool.true_and]) | split)
    all_goals ((try simp only [Option.bind_some]); congr 1; rw [Bool.eq_iff_iff]; (try simp only [beq_iff_eq, decide_eq_true_eq, Bool.and_eq_true, Bool.false_eq_true]); unfold pkQ; (try unfold dataQ); (try simp only [eq_self, Bool.false_eq_true, true_and, false_and, and_false, false_iff, true_iff, iff_false, iff_true, not_false_eq_true, not_true_eq_false]); first | done | omega | ((try simp only [le_mn]); omega) | ((try simp only [wrap64, beq_eq_false_iff_ne, bne_iff_ne, beq_iff_eq, ne_eq, decide_eq_false_iff_not, Decidable.not_not, true_or, or_true, true_and, not_true_eq_false, not_false_eq_true, false_and, and_false, and_true, or_false, false_or, iff_false, iff_true, false_iff, true_iff, Int.reduceEq] at *); (try simp only [le_mn] at *); first | done | omega))
  simp only [show ¬ (1 ≤ K ∧ K ≤ 6) by omega, if_false, if_true]
  ((try simp only [Option.bind_some]); congr 1; rw [Bool.eq_iff_iff]; (try simp only [beq_iff_eq, decide_eq_true_eq, Bool.and_eq_true, Bool.false_eq_true]); unfold pkQ; (try unfold dataQ); (try simp only [eq_self, Bool.false_eq_true, true_and, false_and, and_false, false_iff, true_iff, iff_false, iff_true, not_false_eq_true, not_true_eq_false]); first | done | omega | ((try simp only [le_mn]); omega) | ((try simp only [wrap64, beq_eq_false_iff_ne, bne_iff_ne, beq_iff_eq, ne_eq, decide_eq_false_iff_not, Decidable.not_not, true_or, or_true, true_and, not_true_eq_false, not_false_eq_true, false_and, and_false, and_true, or_false, false_or, iff_false, iff_true, false_iff, true_iff, Int.reduceEq] at *); (try simp only [le_mn] at *); first | done | omega))
theorem toPacket_ev (K f t a n g s : Int) (l : List Int) (hl : l.length ≤ 1048576) (k : Nat) (hk : 1048577 < k) : laws_toPacket.f k K f t a n g s l = some (K, f, t, a, n, g, s, l) := by
  unfold laws_toPacket.f
  rw [toIntS_ev l hl k (by omega)]
  rfl
theorem eqPacket_ev (K f t a n g s : Int) (l : List Int) (hl : l.length ≤ 1048576) (k : Nat) (hk : 1048577 < k) : laws_eqPacket.f k K f t a n g s l K f t a n g s l = some true := by
  unfold laws_eqPacket.f
  rw [if_pos rfl, if_pos rfl, if_pos rfl, if_pos rfl, if_pos rfl, if_pos rfl, if_pos rfl, eqIntS_ev l l (by omega) k (by omega)]
  simp
theorem szPacket_eq (K f t a n g s : Int) (l : List Int) (left : Int) (h0 : 0 ≤ left) (h1 : left ≤ 1048576) (hl : l.length ≤ 9223372036854775807) : ∃ r, (∀ k : Nat, laws_szPacket.f k K f t a n g s l left = some r) ∧ r ≤ left ∧ (0 ≤ r → r = left - l.length) := by
  suffices hs : ∃ r, laws_szPacket.f 0 K f t a n g s l left = some r ∧ r ≤ left ∧ (0 ≤ r → r = left - l.length) from by
    obtain ⟨r, h1, h2⟩ := hs
    exact ⟨r, fun _ => h1, h2⟩
  unfold laws_szPacket.f
  rw [szIntS_eq l left h0 h1 hl]
  simp only [Option.bind_some]
  by_cases hx : left < l.length
  · rw [if_pos hx, if_pos (by omega)]
    exact ⟨_, rfl, by omega, fun h => by omega⟩
  · rw [if_neg hx, if_neg (by omega)]
    exact ⟨_, rfl, by omega, fun h => rfl⟩
/-- The class of a packet: -1 where it is none. -/
def clI (K f t a n g s : Int) (l : List Int) : Int := if pkB K f t a n g s l = true then (if K = 1 then 0 else if K = 2 then 0 else if K = 6 then 2 else 1) else -1
theorem sClassOf_ev (K f t a n g s : Int) (l : List Int) (hl : l.length ≤ 1048576) (k : Nat) (hk : 1048590 < k) : spec_ClassOf.f k K f t a n g s l = some (clI K f t a n g s l) := by
  unfold spec_ClassOf.f clI
  rw [sIsPacket_ev K f t a n g s l hl k (by omega)]
  obtain ⟨k, rfl⟩ : ∃ m, k = m + 1 := ⟨k - 1, by omega⟩
  simp only [Option.bind_some, beq_iff_eq]
  cases pkB K f t a n g s l
  all_goals repeat' split
  all_goals first | rfl | (exfalso; omega) | simp_all
theorem iClassOf_ev (K f t a n g s : Int) (l : List Int) (hl : l.length ≤ 1048576) (k : Nat) (hk : 1048590 < k) : impl_ClassOf.f k K f t a n g s l = some (clI K f t a n g s l) := by
  unfold impl_ClassOf.f impl_classOf.f clI
  rw [iIsPacket_ev K f t a n g s l hl k (by omega)]
  obtain ⟨k, rfl⟩ : ∃ m, k = m + 1 := ⟨k - 1, by omega⟩
  simp only [Option.bind_some, impl_classOf.j0, beq_iff_eq]
  cases pkB K f t a n g s l
  all_goals repeat' split
  all_goals first | rfl | (exfalso; omega) | simp_all
theorem clI_yes (K f t a n g s : Int) (l : List Int) : pkB K f t a n g s l = true ↔ 0 ≤ clI K f t a n g s l := by
  unfold clI
  cases pkB K f t a n g s l
  · simp
  · simp
    repeat' split
    all_goals omega
def unI (K f t a n g s : Int) (l : List Int) : Int := if pkB K f t a n g s l = true then ((l.length : Int) + 3) / 4 else -1
theorem sUnits_ev (K f t a n g s : Int) (l : List Int) (hl : l.length ≤ 1048576) (k : Nat) (hk : 1048590 < k) : spec_PacketUnits.f k K f t a n g s l = some (unI K f t a n g s l) := by
  unfold spec_PacketUnits.f unI
  rw [sIsPacket_ev K f t a n g s l hl k (by omega)]
  simp only [Option.bind_some]
  rw [wrap_id ((l.length : Int) + 3) (by omega)]
  cases pkB K f t a n g s l
  · simp
  · simp; rw [Int.tdiv_eq_ediv_of_nonneg (by omega), wrap_id _ (by omega)]
theorem iUnits_ev (K f t a n g s : Int) (l : List Int) (hl : l.length ≤ 1048576) (k : Nat) (hk : 1048590 < k) : impl_PacketUnits.f k K f t a n g s l = some (unI K f t a n g s l) := by
  unfold impl_PacketUnits.f unI
  rw [iIsPacket_ev K f t a n g s l hl k (by omega)]
  simp only [Option.bind_some]
  rw [wrap_id ((l.length : Int) + 3) (by omega)]
  cases pkB K f t a n g s l
  · simp
  · simp; rw [Int.tdiv_eq_ediv_of_nonneg (by omega), wrap_id _ (by omega)]
def SmallP (x : S47) : Prop := x.f7.length ≤ 1048576
def FitP (x : S47) : Prop := x.f7.length ≤ 9223372036854775807
def SmallQ (x : S38) : Prop := x.f7.length ≤ 1048576
/-- The same packet, once as the law holds it, once as the program does. -/
def cvP (x : S47) : S38 := ⟨x.f0, x.f1, x.f2, x.f3, x.f4, x.f5, x.f6, x.f7⟩
theorem cvP_small (l : List S47) (h : ∀ x ∈ l, SmallP x) : ∀ y ∈ l.map cvP, SmallQ y := by
  intro y hy
  obtain ⟨x, hx, rfl⟩ := List.mem_map.1 hy
  exact h x hx
def pkE (x : S38) : Bool := pkB x.f0 x.f1 x.f2 x.f3 x.f4 x.f5 x.f6 x.f7
theorem rdP_lt (l : List (S47)) (i : Nat) (h : i < l.length) : rd_T47 l (i : Int) = l[i] := by
  show l.getD i z47 = l[i]
  simp [h]
theorem rdQ_lt (l : List (S38)) (i : Nat) (h : i < l.length) : rd_T38 l (i : Int) = l[i] := by
  show l.getD i z38 = l[i]
  simp [h]
theorem szP (x : S47) (left : Int) (h0 : 0 ≤ left) (h1 : left ≤ 1048576) (hw : FitP x) : ∃ r, (∀ k : Nat, laws_szPacket.f k x.f0 x.f1 x.f2 x.f3 x.f4 x.f5 x.f6 x.f7 left = some r) ∧ r ≤ left ∧ (0 ≤ r → SmallP x) := by
  obtain ⟨r, e, hr, hr'⟩ := szPacket_eq x.f0 x.f1 x.f2 x.f3 x.f4 x.f5 x.f6 x.f7 left h0 h1 hw
  exact ⟨r, e, hr, fun h => by have := hr' h; unfold SmallP; omega⟩
theorem szPacketS_l0 (l : List (S47)) (hl : l.length ≤ 1048576) (hw : ∀ x ∈ l, FitP x) (d : Nat) : ∀ (i : Nat) (left : Int), 0 ≤ left → left ≤ 1048576 → i + d = l.length → ∃ r, (∀ k, d < k → laws_szPacketS.l0 k l left (i : Int) = some r) ∧ r ≤ left ∧ (0 ≤ r → ∀ x ∈ l.drop i, SmallP x) := by
  induction d with
  | zero =>
    intro i left h0 h1 hi
    refine ⟨left, fun k hk => ?_, Int.le_refl _, fun _ x hx => ?_⟩
    · obtain ⟨k, rfl⟩ : ∃ m, k = m + 1 := ⟨k - 1, by omega⟩
      simp only [laws_szPacketS.l0]
      rw [if_neg (show ¬ (i : Int) < (l.length : Int) by omega)]
    · rw [drop_all l i (by omega)] at hx; cases hx
  | succ d ih =>
    intro i left h0 h1 hi
    have hlt : i < l.length := by omega
    obtain ⟨q, e, hq1, hq2⟩ := szP l[i] left h0 h1 (hw _ (List.getElem_mem hlt))
    by_cases hq : q < 0
    · refine ⟨-1, fun k hk => ?_, by omega, fun h => by omega⟩
      obtain ⟨k, rfl⟩ : ∃ m, k = m + 1 := ⟨k - 1, by omega⟩
      simp only [laws_szPacketS.l0]
      rw [if_pos (show (i : Int) < (l.length : Int) by omega), if_pos (show (0 : Int) ≤ (i : Int) by omega), rdP_lt l i hlt, e]
      simp only [Option.bind_some]
      rw [if_pos hq]
    · obtain ⟨r, hr1, hr2, hr3⟩ := ih (i + 1) q (by omega) (by omega) (by omega)
      refine ⟨r, fun k hk => ?_, by omega, fun h x hx => ?_⟩
      · obtain ⟨k, rfl⟩ : ∃ m, k = m + 1 := ⟨k - 1, by omega⟩
        simp only [laws_szPacketS.l0]
        rw [if_pos (show (i : Int) < (l.length : Int) by omega), if_pos (show (0 : Int) ≤ (i : Int) by omega), rdP_lt l i hlt, e]
        simp only [Option.bind_some]
        rw [if_neg hq, wrap_succ i (by omega)]
        exact hr1 k (by omega)
      · rw [drop_cons l i hlt] at hx
        rcases List.mem_cons.1 hx with rfl | hx
        · exact hq2 (by omega)
        · exact hr3 h x hx
theorem szPacketS_ev (l : List (S47)) (left : Int) (h0 : 0 ≤ left) (h1 : left ≤ 1048576) (hm : l.length ≤ 9223372036854775807) (hw : ∀ x ∈ l, FitP x) : ∃ r, (∀ k, 1048577 ≤ k → laws_szPacketS.f k l left = some r) ∧ r ≤ left ∧ (0 ≤ r → l.length ≤ 1048576 ∧ ∀ x ∈ l, SmallP x) := by
  unfold laws_szPacketS.f
  rw [wrap_id _ (by omega)]
  by_cases h : left - (l.length : Int) < 0
  · refine ⟨-1, fun k hk => ?_, by omega, fun h => by omega⟩
    rw [if_pos h]
  · obtain ⟨r, hr1, hr2, hr3⟩ := szPacketS_l0 l (by omega) hw l.length 0 (left - (l.length : Int)) (by omega) (by omega) (by omega)
    refine ⟨r, fun k hk => ?_, by omega, fun h => ⟨by omega, fun x hx => hr3 h x (by simpa using hx)⟩⟩
    rw [if_neg h]
    exact hr1 k (by omega)
theorem toPacketS_l0 (l : List S47) (hb : l.length ≤ 1048576) (he : ∀ x ∈ l, SmallP x) (d : Nat) : ∀ (x : List S38) (i : Nat), x.length = l.length → x.take i = (l.map cvP).take i → i + d = l.length → ∀ k, 1048590 + d < k → laws_toPacketS.l0 k l x (i : Int) = some (l.map cvP) := by
  induction d with
  | zero =>
    intro x i hx ht hi k hk
    obtain ⟨k, rfl⟩ : ∃ m, k = m + 1 := ⟨k - 1, by omega⟩
    simp only [laws_toPacketS.l0]
    rw [if_neg (show ¬ (i : Int) < (l.length : Int) by omega), fill_end x (l.map cvP) i (by simp [hx]) (by simp; omega) ht]
  | succ d ih =>
    intro x i hx ht hi k hk
    obtain ⟨k, rfl⟩ : ∃ m, k = m + 1 := ⟨k - 1, by omega⟩
    have hlt : i < l.length := by omega
    have hs := he _ (List.getElem_mem hlt)
    unfold SmallP at hs
    simp only [laws_toPacketS.l0]
    rw [if_pos (show (i : Int) < (l.length : Int) by omega), if_pos (show (0 : Int) ≤ (i : Int) by omega), rdP_lt l i hlt, toPacket_ev l[i].f0 l[i].f1 l[i].f2 l[i].f3 l[i].f4 l[i].f5 l[i].f6 l[i].f7 hs k (by omega)]
    simp only [Option.bind_some]
    rw [if_pos (show (i : Int) < (x.length : Int) by omega), wrap_succ i (by omega), toNat_nat]
    exact ih _ (i + 1) (by simp [hx]) (fill_step x (l.map cvP) i _ (by omega) (by simp; omega) ht (by rw [List.getElem_map]; rfl)) (by omega) k (by omega)
theorem toPacketS_ev (l : List S47) (hb : l.length ≤ 1048576) (he : ∀ x ∈ l, SmallP x) : ∀ k, 2097170 < k → laws_toPacketS.f k l = some (l.map cvP) := by
  intro k hk
  unfold laws_toPacketS.f
  rw [if_pos (by omega), if_pos (by omega)]
  exact toPacketS_l0 l hb he l.length _ 0 (by simp) (by simp) (by omega) k (by omega)
theorem eqPacketS_l0 (l : List S38) (hb : l.length ≤ 1048577) (he : ∀ x ∈ l, SmallQ x) (d : Nat) : ∀ (i : Nat), i + d = l.length → ∀ k, 1048590 + d < k → laws_eqPacketS.l0 k l l (i : Int) = some true := by
  induction d with
  | zero =>
    intro i hi k hk
    obtain ⟨k, rfl⟩ : ∃ m, k = m + 1 := ⟨k - 1, by omega⟩
    simp only [laws_eqPacketS.l0]
    rw [if_neg (show ¬ (i : Int) < (l.length : Int) by omega)]
  | succ d ih =>
    intro i hi k hk
    obtain ⟨k, rfl⟩ : ∃ m, k = m + 1 := ⟨k - 1, by omega⟩
    have hlt : i < l.length := by omega
    have hs := he _ (List.getElem_mem hlt)
    unfold SmallQ at hs
    simp only [laws_eqPacketS.l0]
    rw [if_pos (show (i : Int) < (l.length : Int) by omega), if_pos (show (0 : Int) ≤ (i : Int) by omega), if_pos (show (i : Int) < (l.length : Int) by omega), rdQ_lt l i hlt, eqPacket_ev l[i].f0 l[i].f1 l[i].f2 l[i].f3 l[i].f4 l[i].f5 l[i].f6 l[i].f7 hs k (by omega)]
    simp only [Option.bind_some, if_true]
    rw [wrap_succ i (by omega)]
    exact ih (i + 1) (by omega) k (by omega)
theorem eqPacketS_ev (l : List S38) (hb : l.length ≤ 1048577) (he : ∀ x ∈ l, SmallQ x) : ∀ k, 2097170 < k → laws_eqPacketS.f k l l = some true := by
  intro k hk
  unfold laws_eqPacketS.f
  rw [if_pos rfl]
  exact eqPacketS_l0 l hb he l.length 0 (by omega) k (by omega)
theorem rdT_lt (l : List (S38)) (i : Nat) (h : i < l.length) : rd_T38 l (i : Int) = l[i] := by
  show l.getD i (⟨0, 0, 0, 0, 0, 0, 0, []⟩ : S38) = l[i]
  simp [h]
def clE (x : S38) : Int := clI x.f0 x.f1 x.f2 x.f3 x.f4 x.f5 x.f6 x.f7
theorem sCl (k : Nat) (x : S38) (h : SmallQ x) (hk : 1048590 < k) : spec_ClassOf.f k x.f0 x.f1 x.f2 x.f3 x.f4 x.f5 x.f6 x.f7 = some (clE x) := sClassOf_ev x.f0 x.f1 x.f2 x.f3 x.f4 x.f5 x.f6 x.f7 h k hk
theorem iCl (k : Nat) (x : S38) (h : SmallQ x) (hk : 1048590 < k) : impl_ClassOf.f k x.f0 x.f1 x.f2 x.f3 x.f4 x.f5 x.f6 x.f7 = some (clE x) := iClassOf_ev x.f0 x.f1 x.f2 x.f3 x.f4 x.f5 x.f6 x.f7 h k hk
theorem szChannel_ev (u v y z : List Int) (p q : List S47) (left : Int) (h0 : 0 ≤ left) (h1 : left ≤ 1048576) (mu : u.length ≤ 9223372036854775807) (mv : v.length ≤ 9223372036854775807) (my : y.length ≤ 9223372036854775807) (mz : z.length ≤ 9223372036854775807) (mp : p.length ≤ 9223372036854775807) (fp : ∀ x ∈ p, FitP x) (mq : q.length ≤ 9223372036854775807) (fq : ∀ x ∈ q, FitP x) : ∃ r, (∀ k, 1048577 ≤ k → laws_szChannel.f k u v y z p q left = some r) ∧ (0 ≤ r → u.length ≤ 1048576 ∧ v.length ≤ 1048576 ∧ y.length ≤ 1048576 ∧ z.length ≤ 1048576 ∧ (p.length ≤ 1048576 ∧ ∀ x ∈ p, SmallP x) ∧ (q.length ≤ 1048576 ∧ ∀ x ∈ q, SmallP x)) := by
  obtain ⟨r, e1, a1⟩ := szCredits_eq u v left h0 h1 mu mv
  by_cases hr : r < 0
  · refine ⟨-1, fun k hk => ?_, fun h => by omega⟩
    unfold laws_szChannel.f
    rw [e1]
    simp only [Option.bind_some]
    rw [if_pos hr]
  have a1 := a1 (by omega)
  obtain ⟨s, e2, a2⟩ := szCredits_eq y z r (by omega) (by omega) my mz
  by_cases hs : s < 0
  · refine ⟨-1, fun k hk => ?_, fun h => by omega⟩
    unfold laws_szChannel.f
    rw [e1]
    simp only [Option.bind_some]
    rw [if_neg hr, e2]
    simp only [Option.bind_some]
    rw [if_pos hs]
  have a2 := a2 (by omega)
  obtain ⟨t, e3, a3, b3⟩ := szPacketS_ev p s (by omega) (by omega) mp fp
  by_cases ht : t < 0
  · refine ⟨-1, fun k hk => ?_, fun h => by omega⟩
    unfold laws_szChannel.f
    rw [e1]
    simp only [Option.bind_some]
    rw [if_neg hr, e2]
    simp only [Option.bind_some]
    rw [if_neg hs, e3 k hk]
    simp only [Option.bind_some]
    rw [if_pos ht]
  obtain ⟨w, e4, a4, b4⟩ := szPacketS_ev q t (by omega) (by omega) mq fq
  by_cases hw : w < 0
  · refine ⟨-1, fun k hk => ?_, fun h => by omega⟩
    unfold laws_szChannel.f
    rw [e1]
    simp only [Option.bind_some]
    rw [if_neg hr, e2]
    simp only [Option.bind_some]
    rw [if_neg hs, e3 k hk]
    simp only [Option.bind_some]
    rw [if_neg ht, e4 k hk]
    simp only [Option.bind_some]
    rw [if_pos hw]
  · refine ⟨w, fun k hk => ?_, fun h => ⟨by omega, by omega, by omega, by omega, b3 (by omega), b4 (by omega)⟩⟩
    unfold laws_szChannel.f
    rw [e1]
    simp only [Option.bind_some]
    rw [if_neg hr, e2]
    simp only [Option.bind_some]
    rw [if_neg hs, e3 k hk]
    simp only [Option.bind_some]
    rw [if_neg ht, e4 k hk]
    simp only [Option.bind_some]
    rw [if_neg hw]
theorem toChannel_ev (u v y z : List Int) (p q : List S47) (hu : u.length ≤ 1048576) (hv : v.length ≤ 1048576) (hy : y.length ≤ 1048576) (hz : z.length ≤ 1048576) (hp : p.length ≤ 1048576) (hsp : ∀ x ∈ p, SmallP x) (hq : q.length ≤ 1048576) (hsq : ∀ x ∈ q, SmallP x) (k : Nat) (hk : 2097170 < k) : laws_toChannel.f k u v y z p q = some (u, v, y, z, p.map cvP, q.map cvP) := by
  unfold laws_toChannel.f
  rw [toCredits_ev u v hu hv k (by omega), toCredits_ev y z hy hz k (by omega), toPacketS_ev p hp hsp k hk, toPacketS_ev q hq hsq k hk]
  rfl
theorem eqChannel_ev (u v y z : List Int) (p q : List S38) (hu : u.length ≤ 1048576) (hv : v.length ≤ 1048576) (hy : y.length ≤ 1048576) (hz : z.length ≤ 1048576) (hp : p.length ≤ 1048577) (hsp : ∀ x ∈ p, SmallQ x) (hq : q.length ≤ 1048577) (hsq : ∀ x ∈ q, SmallQ x) (k : Nat) (hk : 2097170 < k) : laws_eqChannel.f k u v y z p q u v y z p q = some true := by
  unfold laws_eqChannel.f
  rw [eqCredits_ev u v hu hv k (by omega), eqCredits_ev y z hy hz k (by omega), eqPacketS_ev p hp hsp k hk, eqPacketS_ev q hq hsq k hk]
  rfl
theorem clone_ev (l : List Int) (hl : l.length ≤ 1048580) : slices_Clone_int_int.f l = some l := by
  unfold slices_Clone_int_int.f
  simp only [Option.bind_some, List.nil_append, List.length_nil]
  rw [if_pos (by omega)]
theorem copy_ev (x y : List Int) (hx : x.length ≤ 1048576) (hy : y.length ≤ 1048576) : impl_copyCredits.f x y = some (x, y) := by
  unfold impl_copyCredits.f
  rw [clone_ev x (by omega), clone_ev y (by omega)]
  rfl
theorem scopy_ev (x y : List Int) (hx : x.length ≤ 1048576) (hy : y.length ≤ 1048576) : spec_l14Copy.f x y = some (x, y) := by
  unfold spec_l14Copy.f
  simp only [Option.bind_some, List.nil_append, List.length_nil]
  rw [if_pos (by omega), if_pos (by omega)]
theorem cl_range (K f t a n g s : Int) (l : List Int) : -1 ≤ clI K f t a n g s l ∧ clI K f t a n g s l ≤ 2 := by
  unfold clI
  repeat' split
  all_goals omega
theorem crB_len3 {a b : List Int} (h : crB a b = true) : a.length = 3 ∧ b.length = 3 := by
  unfold crB areCr at h
  simp only [Bool.and_eq_true, decide_eq_true_eq] at h
  exact ⟨h.1.1, h.2.1⟩
def unE (x : S38) : Int := unI x.f0 x.f1 x.f2 x.f3 x.f4 x.f5 x.f6 x.f7
theorem sUn (k : Nat) (x : S38) (h : SmallQ x) (hk : 1048590 < k) : spec_PacketUnits.f k x.f0 x.f1 x.f2 x.f3 x.f4 x.f5 x.f6 x.f7 = some (unE x) := sUnits_ev x.f0 x.f1 x.f2 x.f3 x.f4 x.f5 x.f6 x.f7 h k hk
theorem iUn (k : Nat) (x : S38) (h : SmallQ x) (hk : 1048590 < k) : impl_PacketUnits.f k x.f0 x.f1 x.f2 x.f3 x.f4 x.f5 x.f6 x.f7 = some (unE x) := iUnits_ev x.f0 x.f1 x.f2 x.f3 x.f4 x.f5 x.f6 x.f7 h k hk
theorem iPk (k : Nat) (x : S38) (h : SmallQ x) (hk : 1048590 < k) : impl_IsPacket.f k x.f0 x.f1 x.f2 x.f3 x.f4 x.f5 x.f6 x.f7 = some (pkE x) := iIsPacket_ev x.f0 x.f1 x.f2 x.f3 x.f4 x.f5 x.f6 x.f7 h k (by omega)
theorem clE_yes (x : S38) : pkE x = true ↔ 0 ≤ clE x := clI_yes x.f0 x.f1 x.f2 x.f3 x.f4 x.f5 x.f6 x.f7
theorem clE_le (x : S38) : clE x ≤ 2 := (cl_range x.f0 x.f1 x.f2 x.f3 x.f4 x.f5 x.f6 x.f7).2
theorem sSame_ev (a b c d : List Int) (ha : a.length = 3) (hb : b.length = 3) (hc : c.length ≤ 1048576) (hd : d.length ≤ 1048576) (k : Nat) (hk : 10 < k) : spec_SameCredits.f k a b c d = some (decide (a = c) && decide (b = d)) := by
  unfold spec_SameCredits.f
  simp only [Option.bind_some, l04Ints_ev a c (by omega) k (by omega), l04Ints_ev b d (by omega) k (by omega)]
  by_cases e1 : a = c <;> by_cases e2 : b = d <;> simp [e1, e2]
theorem iSame_ev (a b c d : List Int) (ha : a.length = 3) (hb : b.length = 3) (hc : c.length ≤ 1048576) (hd : d.length ≤ 1048576) (k : Nat) (hk : 10 < k) : impl_SameCredits.f k a b c d = some (decide (a = c) && decide (b = d)) := by
  unfold impl_SameCredits.f
  simp only [Option.bind_some, equal_ev a c (by omega) k (by omega), equal_ev b d (by omega) k (by omega)]
  by_cases e1 : a = c <;> by_cases e2 : b = d <;> simp [e1, e2]
def bumpH (x : S38) (h : List Int) : List Int := h.set (clE x).toNat (wrap64 (rd h (clE x) + 1))
def bumpU (x : S38) (u : List Int) : List Int := u.set (clE x).toNat (wrap64 (rd u (clE x) + unE x))
/-- Whether credits and what is on its way make up the limit. -/
def chk (a b : List Int) : List S38 → List Int → List Int → Bool
  | [], h, u => decide (h = a) && decide (u = b)
  | x :: r, h, u => if pkE x = true then chk a b r (bumpH x h) (bumpU x u) else false
theorem sCh_l0 (a b y z : List Int) (ha : a.length ≤ 1048576) (hb : b.length ≤ 1048576) (p q : List S38) (l : List S38) (hl : l.length ≤ 2097152) (hs : ∀ x ∈ l, SmallQ x) (d : Nat) : ∀ (i : Nat) (h u : List Int), i + d = l.length → h.length = 3 → u.length = 3 → ∀ k, 1048600 + d < k → spec_ChannelOk.l0 k l (i : Int) a b y z p q h u = some (chk a b (l.drop i) h u) := by
  induction d with
  | zero =>
    intro i h u hi hh hu k hk
    obtain ⟨k, rfl⟩ : ∃ m, k = m + 1 := ⟨k - 1, by omega⟩
    simp only [spec_ChannelOk.l0]
    rw [if_neg (by omega), drop_all l i (by omega), sSame_ev h u a b hh hu ha hb k (by omega)]
    rfl
  | succ d ih =>
    intro i h u hi hh hu k hk
    obtain ⟨k, rfl⟩ : ∃ m, k = m + 1 := ⟨k - 1, by omega⟩
    have hlt : i < l.length := by omega
    have hr : rd_T38 l (i : Int) = l[i] := rdT_lt l i hlt
    have hx := hs _ (List.getElem_mem hlt)
    have h2 := clE_le l[i]
    rw [spec_ChannelOk.l0]
    rw [if_pos (by omega), if_pos (by omega), hr, sCl k l[i] hx (by omega), drop_cons l i hlt]
    simp only [Option.bind_some, chk]
    by_cases hp : pkE l[i] = true
    · have h0 := (clE_yes l[i]).1 hp
      rw [if_pos hp, if_neg (by omega), if_pos h0, if_pos (by omega), if_pos (by omega), sUn k l[i] hx (by omega), wrap_succ i (by omega)]
      simp only [Option.bind_some]
      exact ih (i + 1) _ _ (by omega) (by rw [List.length_set]; exact hh) (by rw [List.length_set]; exact hu) k (by omega)
    · have h0 : ¬ 0 ≤ clE l[i] := fun h => hp ((clE_yes l[i]).2 h)
      rw [if_neg hp, if_pos (by omega)]
theorem iCh_l0 (a b y z : List Int) (ha : a.length ≤ 1048576) (hb : b.length ≤ 1048576) (p q : List S38) (l : List S38) (hl : l.length ≤ 2097152) (hs : ∀ x ∈ l, SmallQ x) (d : Nat) : ∀ (i : Nat) (h u : List Int), i + d = l.length → h.length = 3 → u.length = 3 → ∀ k, 1048600 + d < k → impl_ChannelOk.l0 k l (l.length : Int) (i : Int) a b y z p q h u = some (chk a b (l.drop i) h u) := by
  induction d with
  | zero =>
    intro i h u hi hh hu k hk
    obtain ⟨k, rfl⟩ : ∃ m, k = m + 1 := ⟨k - 1, by omega⟩
    simp only [impl_ChannelOk.l0]
    rw [if_neg (by omega), drop_all l i (by omega), iSame_ev h u a b hh hu ha hb k (by omega)]
    rfl
  | succ d ih =>
    intro i h u hi hh hu k hk
    obtain ⟨k, rfl⟩ : ∃ m, k = m + 1 := ⟨k - 1, by omega⟩
    have hlt : i < l.length := by omega
    have hr : rd_T38 l (i : Int) = l[i] := rdT_lt l i hlt
    have hx := hs _ (List.getElem_mem hlt)
    have h2 := clE_le l[i]
    rw [impl_ChannelOk.l0]
    rw [if_pos (by omega), if_pos (by omega), if_pos (by omega), hr, iPk k l[i] hx (by omega), drop_cons l i hlt]
    simp only [Option.bind_some, chk]
    by_cases hp : pkE l[i] = true
    · have h0 := (clE_yes l[i]).1 hp
      rw [if_pos hp, if_pos hp, iCl k l[i] hx (by omega)]
      simp only [Option.bind_some]
      rw [if_pos h0, if_pos (by omega), if_pos h0, if_pos (by omega), iUn k l[i] hx (by omega), wrap_succ i (by omega)]
      simp only [Option.bind_some]
      exact ih (i + 1) _ _ (by omega) (by rw [List.length_set]; exact hh) (by rw [List.length_set]; exact hu) k (by omega)
    · rw [if_neg hp, if_neg hp]
def chB (a b c d : List Int) (p q : List S38) : Bool := crB a b && (crB c d && chk a b (p ++ q) c d)
theorem mem_two {p q : List S38} (hsp : ∀ x ∈ p, SmallQ x) (hsq : ∀ x ∈ q, SmallQ x) : ∀ x ∈ p ++ q, SmallQ x := fun x hx => by
  rcases List.mem_append.1 hx with h | h
  · exact hsp x h
  · exact hsq x h
theorem sChannelOk_ev (a b c d : List Int) (p q : List S38) (ha : a.length ≤ 1048576) (hb : b.length ≤ 1048576) (hc : c.length ≤ 1048576) (hd : d.length ≤ 1048576) (hp : p.length ≤ 1048576) (hsp : ∀ x ∈ p, SmallQ x) (hq : q.length ≤ 1048576) (hsq : ∀ x ∈ q, SmallQ x) (k : Nat) (hk : 3145800 < k) : spec_ChannelOk.f k a b c d p q = some (chB a b c d p q) := by
  unfold spec_ChannelOk.f chB
  obtain ⟨k, rfl⟩ : ∃ m, k = m + 1 := ⟨k - 1, by omega⟩
  rw [sCreditsOk_ev a b _ (by omega)]
  simp only [Option.bind_some]
  by_cases h1 : crB a b = true
  · rw [if_pos h1, sCreditsOk_ev c d _ (by omega)]
    simp only [Option.bind_some]
    by_cases h2 : crB c d = true
    · obtain ⟨l1, l2⟩ := crB_len3 h2
      have hl : (p ++ q).length ≤ 2097152 := by rw [List.length_append]; omega
      have h := sCh_l0 a b c d ha hb p q (p ++ q) hl (mem_two hsp hsq) (p ++ q).length 0 c d (by omega) l1 l2 k (by omega)
      have c0 : ((0 : Nat) : Int) = 0 := rfl
      rw [c0, List.drop_zero] at h
      rw [h1, h2, Bool.not_true, spec_ChannelOk.j0]
      rw [if_neg (by simp), scopy_ev c d hc hd]
      simp only [Option.bind_some, List.nil_append, List.length_nil, Nat.zero_add, Bool.true_and]
      rw [if_pos (by omega), if_pos (by omega)]
      exact h
    · rw [h1, Bool.eq_false_iff.mpr h2, spec_ChannelOk.j0]
      rfl
  · rw [if_neg h1, Bool.eq_false_iff.mpr h1, spec_ChannelOk.j0]
    rfl
theorem iChannelOk_ev (a b c d : List Int) (p q : List S38) (ha : a.length ≤ 1048576) (hb : b.length ≤ 1048576) (hc : c.length ≤ 1048576) (hd : d.length ≤ 1048576) (hp : p.length ≤ 1048576) (hsp : ∀ x ∈ p, SmallQ x) (hq : q.length ≤ 1048576) (hsq : ∀ x ∈ q, SmallQ x) (k : Nat) (hk : 3145800 < k) : impl_ChannelOk.f k a b c d p q = some (chB a b c d p q) := by
  unfold impl_ChannelOk.f chB
  obtain ⟨k, rfl⟩ : ∃ m, k = m + 1 := ⟨k - 1, by omega⟩
  rw [iCreditsOk_ev a b _ (by omega)]
  simp only [Option.bind_some]
  by_cases h1 : crB a b = true
  · rw [if_pos h1, iCreditsOk_ev c d _ (by omega)]
    simp only [Option.bind_some]
    by_cases h2 : crB c d = true
    · obtain ⟨l1, l2⟩ := crB_len3 h2
      have hl : (p ++ q).length ≤ 2097152 := by rw [List.length_append]; omega
      have h := iCh_l0 a b c d ha hb p q (p ++ q) hl (mem_two hsp hsq) (p ++ q).length 0 c d (by omega) l1 l2 k (by omega)
      have c0 : ((0 : Nat) : Int) = 0 := rfl
      rw [c0, List.drop_zero] at h
      rw [h1, h2, Bool.not_true, impl_ChannelOk.j0]
      rw [if_neg (by simp), copy_ev c d hc hd]
      simp only [Option.bind_some, List.nil_append, List.length_nil, Nat.zero_add, Bool.true_and]
      rw [if_pos (by omega), if_pos (by omega)]
      exact h
    · rw [h1, Bool.eq_false_iff.mpr h2, impl_ChannelOk.j0]
      rfl
  · rw [if_neg h1, Bool.eq_false_iff.mpr h1, impl_ChannelOk.j0]
    rfl

/-- The numbers s, s + 1, .. -/
def markL (n : Nat) (s : Int) : List Int := (List.range n).map fun (i : Nat) => s + (i : Int)
theorem markL_length (n : Nat) (s : Int) : (markL n s).length = n := by simp [markL]
theorem markL_get (n : Nat) (s : Int) (i : Nat) (h : i < (markL n s).length) : (markL n s)[i] = s + (i : Int) := by simp [markL]
theorem markIntS_l0 (n : Nat) (s : Int) (hn : n ≤ 1048576) (h0 : 0 ≤ s) (h1 : s ≤ 5000000000000) (d : Nat) : ∀ (x : List Int) (i : Nat), x.length = n → x.take i = (markL n s).take i → i + d = n → ∀ k, d < k → laws_markIntS.l0 k x (s + (i : Int)) (i : Int) = some (s + (n : Int), markL n s) := by
  induction d with
  | zero =>
    intro x i hx ht hi k hk
    obtain ⟨k, rfl⟩ : ∃ m, k = m + 1 := ⟨k - 1, by omega⟩
    simp only [laws_markIntS.l0]
    have hlen := markL_length n s
    rw [if_neg (show ¬ (i : Int) < (x.length : Int) by omega), fill_end x (markL n s) i (by omega) (by omega) ht, show i = n by omega]
  | succ d ih =>
    intro x i hx ht hi k hk
    obtain ⟨k, rfl⟩ : ∃ m, k = m + 1 := ⟨k - 1, by omega⟩
    have hlen := markL_length n s
    simp only [laws_markIntS.l0]
    rw [if_pos (show (i : Int) < (x.length : Int) by omega), if_pos (show (0 : Int) ≤ (i : Int) by omega), wrap_succ i (by omega), toNat_nat, wrap_id (s + (i : Int) + 1) (by omega)]
    have e : s + (i : Int) + 1 = s + ((i + 1 : Nat) : Int) := by omega
    rw [e]
    exact ih _ (i + 1) (by simp [hx]) (fill_step x (markL n s) i _ (by omega) (by omega) ht (markL_get n s i (by omega)).symm) (by omega) k (by omega)
theorem markIntS_ev (l : List Int) (s : Int) (hn : l.length ≤ 1048576) (h0 : 0 ≤ s) (h1 : s ≤ 5000000000000) (k : Nat) (hk : l.length < k) : laws_markIntS.f k l s = some (s + (l.length : Int), markL l.length s) := by
  unfold laws_markIntS.f
  have h := markIntS_l0 l.length s hn h0 h1 l.length l 0 rfl (by simp) (by omega) k hk
  simpa using h
theorem heldIntS_l0 (n : Nat) (s : Int) (hn : n ≤ 1048576) (h0 : 0 ≤ s) (h1 : s ≤ 5000000000000) (d : Nat) : ∀ (i : Nat), i + d = n → ∀ k, d < k → laws_heldIntS.l0 k (markL n s) (s + (i : Int)) (i : Int) = some (s + (n : Int)) := by
  have hlen := markL_length n s
  induction d with
  | zero =>
    intro i hi k hk
    obtain ⟨k, rfl⟩ : ∃ m, k = m + 1 := ⟨k - 1, by omega⟩
    simp only [laws_heldIntS.l0]
    rw [if_neg (show ¬ (i : Int) < ((markL n s).length : Int) by omega), show i = n by omega]
  | succ d ih =>
    intro i hi k hk
    obtain ⟨k, rfl⟩ : ∃ m, k = m + 1 := ⟨k - 1, by omega⟩
    simp only [laws_heldIntS.l0]
    rw [if_pos (show (i : Int) < ((markL n s).length : Int) by omega), if_pos (show (0 : Int) ≤ (i : Int) by omega), rd_lt _ i (by omega), markL_get n s i (by omega), if_pos rfl, wrap_succ i (by omega), wrap_id (s + (i : Int) + 1) (by omega)]
    have e : s + (i : Int) + 1 = s + ((i + 1 : Nat) : Int) := by omega
    rw [e]
    exact ih (i + 1) (by omega) k (by omega)
theorem heldIntS_ev (n : Nat) (s : Int) (hn : n ≤ 1048576) (h0 : 0 ≤ s) (h1 : s ≤ 5000000000000) (k : Nat) (hk : n < k) : laws_heldIntS.f k (markL n s) s = some (s + (n : Int)) := by
  unfold laws_heldIntS.f
  have h := heldIntS_l0 n s hn h0 h1 n 0 (by omega) k hk
  simpa using h
theorem set_mid {α : Type} (done : List α) (x y : α) (rest : List α) : (done ++ x :: rest).set done.length y = (done ++ [y]) ++ rest := by
  rw [List.set_append_right _ _ (Nat.le_refl _)]
  simp
theorem rd_mid (done : List S38) (x : S38) (rest : List S38) : rd_T38 (done ++ x :: rest) (done.length : Int) = x := by
  rw [rdT_lt _ _ (by simp)]
  simp
def mkE (x : S38) (c : Int) : S38 := ⟨c, c + 1, c + 1 + 1, c + 1 + 1 + 1, c + 1 + 1 + 1 + 1, c + 1 + 1 + 1 + 1 + 1, c + 1 + 1 + 1 + 1 + 1 + 1, markL x.f7.length (c + 1 + 1 + 1 + 1 + 1 + 1 + 1)⟩
def szE (x : S38) : Int := 7 + (x.f7.length : Int)
def markE : List S38 → Int → List S38
  | [], _ => []
  | x :: r, c => mkE x c :: markE r (c + szE x)
def totE : List S38 → Int
  | [] => 0
  | x :: r => szE x + totE r
theorem totE_le : ∀ l : List S38, (∀ x ∈ l, SmallQ x) → 0 ≤ totE l ∧ totE l ≤ (l.length : Int) * 1048583
  | [], _ => by simp [totE]
  | x :: r, h => by
    have h1 := totE_le r (fun y hy => h y (by simp [hy]))
    have h2 : x.f7.length ≤ 1048576 := h x (by simp)
    simp only [totE, szE, List.length_cons]
    omega
theorem mPS_l0 (rest : List S38) : ∀ (done : List S38) (c : Int), 0 ≤ c → c + (rest.length : Int) * 1048583 ≤ 4000000000000 → done.length + rest.length ≤ 1048577 → (∀ x ∈ rest, SmallQ x) → ∀ k, 1048600 + rest.length < k → laws_markPacketS.l0 k (done ++ rest) c (done.length : Int) = some (c + totE rest, done ++ markE rest c) := by
  induction rest with
  | nil =>
    intro done c h0 h1 hl hs k hk
    obtain ⟨k, rfl⟩ : ∃ m, k = m + 1 := ⟨k - 1, by omega⟩
    rw [laws_markPacketS.l0]
    rw [if_neg (by rw [List.append_nil]; omega)]
    simp [totE, markE]
  | cons x rest ih =>
    intro done c h0 h1 hl hs k hk
    obtain ⟨k, rfl⟩ : ∃ m, k = m + 1 := ⟨k - 1, by omega⟩
    have hx : x.f7.length ≤ 1048576 := hs x (by simp)
    simp only [List.length_cons] at hk hl h1
    have e0 : wrap64 (c + 1) = c + 1 := wrap_id _ (by omega)
    have e1 : wrap64 (c + 1 + 1) = c + 1 + 1 := wrap_id _ (by omega)
    have e2 : wrap64 (c + 1 + 1 + 1) = c + 1 + 1 + 1 := wrap_id _ (by omega)
    have e3 : wrap64 (c + 1 + 1 + 1 + 1) = c + 1 + 1 + 1 + 1 := wrap_id _ (by omega)
    have e4 : wrap64 (c + 1 + 1 + 1 + 1 + 1) = c + 1 + 1 + 1 + 1 + 1 := wrap_id _ (by omega)
    have e5 : wrap64 (c + 1 + 1 + 1 + 1 + 1 + 1) = c + 1 + 1 + 1 + 1 + 1 + 1 := wrap_id _ (by omega)
    have e6 : wrap64 (c + 1 + 1 + 1 + 1 + 1 + 1 + 1) = c + 1 + 1 + 1 + 1 + 1 + 1 + 1 := wrap_id _ (by omega)
    rw [laws_markPacketS.l0]
    rw [if_pos (by rw [List.length_append, List.length_cons]; omega), if_pos (by omega), rd_mid, e0, e1, e2, e3, e4, e5, e6]
    rw [markIntS_ev x.f7 _ hx (by omega) (by omega) k (by omega)]
    simp only [Option.bind_some]
    rw [wrap_succ _ (by omega), toNat_nat, set_mid]
    have h := ih (done ++ [mkE x c]) (c + szE x) (by unfold szE; omega) (by unfold szE; omega) (by rw [List.length_append, List.length_singleton]; omega) (fun y hy => hs y (by simp [hy])) k (by omega)
    rw [List.length_append, List.length_singleton] at h
    have ec : c + 1 + 1 + 1 + 1 + 1 + 1 + 1 + (x.f7.length : Int) = c + szE x := by unfold szE; omega
    rw [ec]
    simp only [markE, totE]
    rw [← Int.add_assoc, show done ++ mkE x c :: markE rest (c + szE x) = (done ++ [mkE x c]) ++ markE rest (c + szE x) from List.append_cons _ _ _]
    exact h
theorem mPS_ev (l : List S38) (c : Int) (h0 : 0 ≤ c) (h1 : c + (l.length : Int) * 1048583 ≤ 4000000000000) (hl : l.length ≤ 1048577) (hs : ∀ x ∈ l, SmallQ x) (k : Nat) (hk : 2097200 < k) : laws_markPacketS.f k l c = some (c + totE l, markE l c) := by
  unfold laws_markPacketS.f
  exact mPS_l0 l [] c h0 h1 (by simpa using hl) hs k (by omega)
theorem hPS_l0 (rest : List S38) : ∀ (done : List S38) (c : Int), 0 ≤ c → c + (rest.length : Int) * 1048583 ≤ 4000000000000 → done.length + rest.length ≤ 1048577 → (∀ x ∈ rest, SmallQ x) → ∀ k, 1048600 + rest.length < k → laws_heldPacketS.l0 k (done ++ markE rest c) c (done.length : Int) = some (c + totE rest) := by
  induction rest with
  | nil =>
    intro done c h0 h1 hl hs k hk
    obtain ⟨k, rfl⟩ : ∃ m, k = m + 1 := ⟨k - 1, by omega⟩
    rw [laws_heldPacketS.l0]
    rw [if_neg (by simp only [markE, List.append_nil]; omega)]
    simp [totE]
  | cons x rest ih =>
    intro done c h0 h1 hl hs k hk
    obtain ⟨k, rfl⟩ : ∃ m, k = m + 1 := ⟨k - 1, by omega⟩
    have hx : x.f7.length ≤ 1048576 := hs x (by simp)
    simp only [List.length_cons] at hk hl h1
    have e0 : wrap64 (c + 1) = c + 1 := wrap_id _ (by omega)
    have e1 : wrap64 (c + 1 + 1) = c + 1 + 1 := wrap_id _ (by omega)
    have e2 : wrap64 (c + 1 + 1 + 1) = c + 1 + 1 + 1 := wrap_id _ (by omega)
    have e3 : wrap64 (c + 1 + 1 + 1 + 1) = c + 1 + 1 + 1 + 1 := wrap_id _ (by omega)
    have e4 : wrap64 (c + 1 + 1 + 1 + 1 + 1) = c + 1 + 1 + 1 + 1 + 1 := wrap_id _ (by omega)
    have e5 : wrap64 (c + 1 + 1 + 1 + 1 + 1 + 1) = c + 1 + 1 + 1 + 1 + 1 + 1 := wrap_id _ (by omega)
    have e6 : wrap64 (c + 1 + 1 + 1 + 1 + 1 + 1 + 1) = c + 1 + 1 + 1 + 1 + 1 + 1 + 1 := wrap_id _ (by omega)
    simp only [markE]
    rw [laws_heldPacketS.l0]
    rw [if_pos (by rw [List.length_append, List.length_cons]; omega), if_pos (by omega), rd_mid, e0, e1, e2, e3, e4, e5, e6]
    rw [if_pos (show (mkE x c).f0 = c from rfl), if_pos (show (mkE x c).f1 = c + 1 from rfl), if_pos (show (mkE x c).f2 = c + 1 + 1 from rfl), if_pos (show (mkE x c).f3 = c + 1 + 1 + 1 from rfl), if_pos (show (mkE x c).f4 = c + 1 + 1 + 1 + 1 from rfl), if_pos (show (mkE x c).f5 = c + 1 + 1 + 1 + 1 + 1 from rfl), if_pos (show (mkE x c).f6 = c + 1 + 1 + 1 + 1 + 1 + 1 from rfl)]
    rw [show (mkE x c).f7 = markL x.f7.length (c + 1 + 1 + 1 + 1 + 1 + 1 + 1) from rfl, heldIntS_ev x.f7.length _ hx (by omega) (by omega) k (by omega)]
    simp only [Option.bind_some]
    have ec : c + 1 + 1 + 1 + 1 + 1 + 1 + 1 + (x.f7.length : Int) = c + szE x := by unfold szE; omega
    rw [if_neg (by omega), wrap_succ _ (by omega), ec]
    have h := ih (done ++ [mkE x c]) (c + szE x) (by unfold szE; omega) (by unfold szE; omega) (by rw [List.length_append, List.length_singleton]; omega) (fun y hy => hs y (by simp [hy])) k (by omega)
    rw [List.length_append, List.length_singleton] at h
    simp only [totE]
    rw [← Int.add_assoc, show done ++ mkE x c :: markE rest (c + szE x) = (done ++ [mkE x c]) ++ markE rest (c + szE x) from List.append_cons _ _ _]
    exact h
theorem hPS_ev (l : List S38) (c : Int) (h0 : 0 ≤ c) (h1 : c + (l.length : Int) * 1048583 ≤ 4000000000000) (hl : l.length ≤ 1048577) (hs : ∀ x ∈ l, SmallQ x) (k : Nat) (hk : 2097200 < k) : laws_heldPacketS.f k (markE l c) c = some (c + totE l) := by
  unfold laws_heldPacketS.f
  exact hPS_l0 l [] c h0 h1 (by simpa using hl) hs k (by omega)
theorem mCr_ev (a b : List Int) (s : Int) (ha : a.length ≤ 1048576) (hb : b.length ≤ 1048576) (h0 : 0 ≤ s) (h1 : s ≤ 4000000000000) (k : Nat) (hk : 1048580 < k) : laws_markCredits.f k a b s = some (s + (a.length : Int) + (b.length : Int), markL a.length s, markL b.length (s + (a.length : Int))) := by
  unfold laws_markCredits.f
  rw [markIntS_ev a s ha h0 (by omega) k (by omega)]
  simp only [Option.bind_some]
  rw [markIntS_ev b _ hb (by omega) (by omega) k (by omega)]
  rfl
theorem hCr_ev (n m : Nat) (s : Int) (ha : n ≤ 1048576) (hb : m ≤ 1048576) (h0 : 0 ≤ s) (h1 : s ≤ 4000000000000) (k : Nat) (hk : 1048580 < k) : laws_heldCredits.f k (markL n s) (markL m (s + (n : Int))) s = some (s + (n : Int) + (m : Int)) := by
  unfold laws_heldCredits.f
  rw [heldIntS_ev n s ha h0 (by omega) k (by omega)]
  simp only [Option.bind_some]
  rw [if_neg (by omega), heldIntS_ev m _ hb (by omega) (by omega) k (by omega)]
  simp only [Option.bind_some]
  rw [if_neg (by omega)]
/-- A channel is marked, and is held as it was marked. -/
theorem mCh_ev (a b c d : List Int) (p q : List S38) (ha : a.length ≤ 1048576) (hb : b.length ≤ 1048576) (hc : c.length ≤ 1048576) (hd : d.length ≤ 1048576) (hp : p.length ≤ 1048577) (hsp : ∀ x ∈ p, SmallQ x) (hq : q.length ≤ 1048577) (hsq : ∀ x ∈ q, SmallQ x) : ∃ (t : Int) (a' b' c' d' : List Int) (p' q' : List S38), 0 ≤ t ∧ t ≤ 3000000000000 ∧ ∀ k, 2097200 < k → laws_markChannel.f k a b c d p q 1 = some (t, a', b', c', d', p', q') ∧ laws_heldChannel.f k a' b' c' d' p' q' 1 = some t := by
  have tp := totE_le p hsp
  have tq := totE_le q hsq
  refine ⟨1 + (a.length : Int) + (b.length : Int) + (c.length : Int) + (d.length : Int) + totE p + totE q, markL a.length (1), markL b.length (1 + (a.length : Int)), markL c.length (1 + (a.length : Int) + (b.length : Int)), markL d.length (1 + (a.length : Int) + (b.length : Int) + (c.length : Int)), markE p (1 + (a.length : Int) + (b.length : Int) + (c.length : Int) + (d.length : Int)), markE q (1 + (a.length : Int) + (b.length : Int) + (c.length : Int) + (d.length : Int) + totE p), ?_, ?_, fun k hk => ⟨?_, ?_⟩⟩
  rotate_left 2
  · unfold laws_markChannel.f
    rw [mCr_ev a b 1 ha hb (by omega) (by omega) k (by omega)]
    simp only [Option.bind_some]
    rw [mCr_ev c d _ hc hd (by omega) (by omega) k (by omega)]
    simp only [Option.bind_some]
    rw [mPS_ev p _ (by omega) (by omega) hp hsp k hk]
    simp only [Option.bind_some]
    rw [mPS_ev q _ (by omega) (by omega) hq hsq k hk]
    rfl
  · unfold laws_heldChannel.f
    rw [hCr_ev a.length b.length 1 ha hb (by omega) (by omega) k (by omega)]
    simp only [Option.bind_some]
    rw [if_neg (by omega), hCr_ev c.length d.length _ hc hd (by omega) (by omega) k (by omega)]
    simp only [Option.bind_some]
    rw [if_neg (by omega), hPS_ev p _ (by omega) (by omega) hp hsp k hk]
    simp only [Option.bind_some]
    rw [if_neg (by omega), hPS_ev q _ (by omega) (by omega) hq hsq k hk]
    simp only [Option.bind_some]
    rw [if_neg (by omega)]
  · omega
  · omega
theorem cpP (x : S38) (h : SmallQ x) : impl_copyPacket.f x.f0 x.f1 x.f2 x.f3 x.f4 x.f5 x.f6 x.f7 = some (x.f0, x.f1, x.f2, x.f3, x.f4, x.f5, x.f6, x.f7) := by
  have h : x.f7.length ≤ 1048576 := h
  unfold impl_copyPacket.f
  rw [clone_ev x.f7 (by omega)]
  rfl
theorem scpP (x : S38) (h : SmallQ x) : spec_l04Copy.f x.f0 x.f1 x.f2 x.f3 x.f4 x.f5 x.f6 x.f7 = some (x.f0, x.f1, x.f2, x.f3, x.f4, x.f5, x.f6, x.f7) := by
  have h : x.f7.length ≤ 1048576 := h
  unfold spec_l04Copy.f
  simp only [Option.bind_some, List.nil_append, List.length_nil, Nat.zero_add]
  rw [if_pos (by omega)]
theorem cpPs_l0 (l : List S38) (hl : l.length ≤ 1048576) (hs : ∀ x ∈ l, SmallQ x) (d : Nat) : ∀ i : Nat, i + d = l.length → ∀ k, d < k → impl_copyPackets.l0 k (l.take i) l (l.length : Int) (i : Int) = some l := by
  induction d with
  | zero =>
    intro i hi k hk
    obtain ⟨k, rfl⟩ : ∃ m, k = m + 1 := ⟨k - 1, by omega⟩
    simp only [impl_copyPackets.l0]
    rw [if_neg (by omega), List.take_of_length_le (by omega)]
  | succ d ih =>
    intro i hi k hk
    obtain ⟨k, rfl⟩ : ∃ m, k = m + 1 := ⟨k - 1, by omega⟩
    have hlt : i < l.length := by omega
    simp only [impl_copyPackets.l0]
    rw [if_pos (show (i : Int) < (l.length : Int) by omega), if_pos (show (0 : Int) ≤ (i : Int) by omega), if_pos (show (i : Int) < (l.length : Int) by omega), rdT_lt l i hlt, cpP l[i] (hs _ (List.getElem_mem hlt))]
    simp only [Option.bind_some]
    rw [if_pos (by rw [List.length_take]; omega), wrap_succ i (by omega)]
    have e := ih (i + 1) (by omega) k (by omega)
    rw [List.take_succ_eq_append_getElem hlt] at e
    exact e
theorem cpPs_ev (l : List S38) (hl : l.length ≤ 1048576) (hs : ∀ x ∈ l, SmallQ x) (k : Nat) (hk : 1048580 < k) : impl_copyPackets.f k l = some l := cpPs_l0 l hl hs l.length 0 (by omega) k (by omega)
theorem scPs_l0 (l : List S38) (hl : l.length ≤ 1048576) (hs : ∀ x ∈ l, SmallQ x) (d : Nat) : ∀ i : Nat, i + d = l.length → ∀ k, d < k → spec_l15Copies.l0 k l (l.take i) (i : Int) = some l := by
  induction d with
  | zero =>
    intro i hi k hk
    obtain ⟨k, rfl⟩ : ∃ m, k = m + 1 := ⟨k - 1, by omega⟩
    simp only [spec_l15Copies.l0]
    rw [if_neg (by omega), List.take_of_length_le (by omega)]
  | succ d ih =>
    intro i hi k hk
    obtain ⟨k, rfl⟩ : ∃ m, k = m + 1 := ⟨k - 1, by omega⟩
    have hlt : i < l.length := by omega
    simp only [spec_l15Copies.l0]
    rw [if_pos (show (i : Int) < (l.length : Int) by omega), if_pos (show (0 : Int) ≤ (i : Int) by omega), rdT_lt l i hlt, scpP l[i] (hs _ (List.getElem_mem hlt))]
    simp only [Option.bind_some]
    rw [if_pos (by rw [List.length_take]; omega), wrap_succ i (by omega)]
    have e := ih (i + 1) (by omega) k (by omega)
    rw [List.take_succ_eq_append_getElem hlt] at e
    exact e
theorem scPs_ev (l : List S38) (hl : l.length ≤ 1048576) (hs : ∀ x ∈ l, SmallQ x) (k : Nat) (hk : 1048580 < k) : spec_l15Copies.f k l = some l := scPs_l0 l hl hs l.length 0 (by omega) k (by omega)
theorem iCopy_ev (a b c d : List Int) (p q : List S38) (ha : a.length ≤ 1048576) (hb : b.length ≤ 1048576) (hc : c.length ≤ 1048576) (hd : d.length ≤ 1048576) (hp : p.length ≤ 1048576) (hsp : ∀ x ∈ p, SmallQ x) (hq : q.length ≤ 1048576) (hsq : ∀ x ∈ q, SmallQ x) (k : Nat) (hk : 1048580 < k) : impl_copyChannel.f k a b c d p q = some (a, b, c, d, p, q) := by
  unfold impl_copyChannel.f
  rw [copy_ev a b ha hb, copy_ev c d hc hd, cpPs_ev p hp hsp k hk, cpPs_ev q hq hsq k hk]
  rfl
theorem sCopy_ev (a b c d : List Int) (p q : List S38) (ha : a.length ≤ 1048576) (hb : b.length ≤ 1048576) (hc : c.length ≤ 1048576) (hd : d.length ≤ 1048576) (hp : p.length ≤ 1048576) (hsp : ∀ x ∈ p, SmallQ x) (hq : q.length ≤ 1048576) (hsq : ∀ x ∈ q, SmallQ x) (k : Nat) (hk : 1048580 < k) : spec_l15Copy.f k a b c d p q = some (a, b, c, d, p, q) := by
  unfold spec_l15Copy.f
  rw [scopy_ev a b ha hb, scopy_ev c d hc hd, scPs_ev p hp hsp k hk, scPs_ev q hq hsq k hk]
  rfl
theorem crB_parts {x y : List Int} (h : crB x y = true) : (x.length = 3 ∧ ∀ z ∈ x, 0 ≤ z ∧ z ≤ 30) ∧ (y.length = 3 ∧ ∀ z ∈ y, 0 ≤ z ∧ z ≤ 30) := by
  unfold crB areCr at h
  simp only [Bool.and_eq_true, decide_eq_true_eq] at h
  exact ⟨⟨h.1.1, fun z hz => of_decide_eq_true (List.all_eq_true.mp h.1.2 z hz)⟩, ⟨h.2.1, fun z hz => of_decide_eq_true (List.all_eq_true.mp h.2.2 z hz)⟩⟩
theorem crB_of {x y : List Int} (hx : x.length = 3) (hx2 : ∀ z ∈ x, 0 ≤ z ∧ z ≤ 30) (hy : y.length = 3) (hy2 : ∀ z ∈ y, 0 ≤ z ∧ z ≤ 30) : crB x y = true := by
  unfold crB areCr
  rw [decide_eq_true hx, decide_eq_true hy, show x.all credB = true from List.all_eq_true.mpr fun z hz => decide_eq_true (hx2 z hz), show y.all credB = true from List.all_eq_true.mpr fun z hz => decide_eq_true (hy2 z hz)]
  rfl
theorem rd_mem3 {x : List Int} (hx : x.length = 3) (i : Int) (h : 0 ≤ i ∧ i ≤ 2) : rd x i ∈ x := by
  obtain ⟨n, rfl⟩ := Int.eq_ofNat_of_zero_le h.1
  rw [rd_lt x n (by omega)]
  exact List.getElem_mem _
theorem rd_set (x : List Int) (i v : Int) (h : 0 ≤ i ∧ i < x.length) : rd (x.set i.toNat v) i = v := by
  obtain ⟨n, rfl⟩ := Int.eq_ofNat_of_zero_le h.1
  rw [show (n : Int).toNat = n from rfl, rd_lt _ n (by rw [List.length_set]; omega)]
  exact List.getElem_set_self _
theorem un_range (K f t a n g s : Int) (l : List Int) (h : pkB K f t a n g s l = true) : 0 ≤ unI K f t a n g s l ∧ unI K f t a n g s l ≤ 5 := by
  have hq : pkQ K f t a n g s (l.all wordB) (l.length : Int) := of_decide_eq_true h
  unfold pkQ at hq
  have hq := hq.2.2
  unfold unI
  rw [if_pos h]
  omega
/-- Credits behind a packet that gives its own back. -/
def rtF (u v : List Int) (K f t a n g s : Int) (l : List Int) : List Int × List Int × Bool := if crB u v = true ∧ 0 ≤ (clI K f t a n g s l) ∧ ¬ rd u (clI K f t a n g s l) = 30 ∧ ¬ 30 < rd v (clI K f t a n g s l) + (unI K f t a n g s l) then (u.set (clI K f t a n g s l).toNat (rd u (clI K f t a n g s l) + 1), v.set (clI K f t a n g s l).toNat (rd v (clI K f t a n g s l) + (unI K f t a n g s l)), true) else (u, v, false)
theorem rtF_len (u v : List Int) (K f t a n g s : Int) (l : List Int) : (rtF u v K f t a n g s l).1.length = u.length ∧ (rtF u v K f t a n g s l).2.1.length = v.length := by
  unfold rtF
  split <;> simp
theorem sRet_ev (u v : List Int) (K f t a n g s : Int) (l : List Int) (hu : u.length ≤ 1048576) (hv : v.length ≤ 1048576) (hl : l.length ≤ 1048576) (k : Nat) (hk : 1048600 < k) : spec_ReturnCredits.f k u v K f t a n g s l = some (rtF u v K f t a n g s l) := by
  unfold spec_ReturnCredits.f rtF
  have h2 : (clI K f t a n g s l) ≤ 2 := (cl_range K f t a n g s l).2
  rw [scopy_ev u v hu hv]
  simp only [Option.bind_some]
  rw [sClassOf_ev K f t a n g s l hl k (by omega)]
  simp only [Option.bind_some]
  rw [sCreditsOk_ev u v k (by omega)]
  simp only [Option.bind_some]
  by_cases h1 : crB u v = true
  case neg => rw [if_neg h1, if_neg (fun h => h1 h.1)]
  rw [if_pos h1]
  by_cases h0 : 0 ≤ (clI K f t a n g s l)
  case neg => rw [if_pos (by omega), if_neg (fun h => h0 h.2.1)]
  obtain ⟨⟨l1, r1⟩, ⟨l2, r2⟩⟩ := crB_parts h1
  have b1 := r1 _ (rd_mem3 l1 (clI K f t a n g s l) ⟨h0, h2⟩)
  have b2 := r2 _ (rd_mem3 l2 (clI K f t a n g s l) ⟨h0, h2⟩)
  have b3 := un_range K f t a n g s l ((clI_yes K f t a n g s l).2 h0)
  rw [if_neg (by omega), if_pos h0, if_pos (by omega)]
  by_cases h3 : rd u (clI K f t a n g s l) = 30
  case pos => rw [if_pos h3, if_neg (fun h => h.2.2.1 h3)]
  rw [if_neg h3, if_pos h0, if_pos (by omega), sUnits_ev K f t a n g s l hl k (by omega)]
  simp only [Option.bind_some]
  rw [wrap_id (rd v (clI K f t a n g s l) + (unI K f t a n g s l)) (by omega), wrap_id (rd u (clI K f t a n g s l) + 1) (by omega)]
  by_cases h4 : 30 < rd v (clI K f t a n g s l) + (unI K f t a n g s l)
  case pos => rw [if_pos h4, if_neg (fun h => h.2.2.2 h4)]
  rw [if_neg h4, if_pos h0, if_pos (by omega), if_pos h0, if_pos (by omega), if_pos ⟨h1, h0, h3, h4⟩]
theorem iRet_ev (u v : List Int) (K f t a n g s : Int) (l : List Int) (hu : u.length ≤ 1048576) (hv : v.length ≤ 1048576) (hl : l.length ≤ 1048576) (k : Nat) (hk : 1048600 < k) : impl_ReturnCredits.f k u v K f t a n g s l = some (rtF u v K f t a n g s l) := by
  unfold impl_ReturnCredits.f rtF
  have h2 : (clI K f t a n g s l) ≤ 2 := (cl_range K f t a n g s l).2
  rw [copy_ev u v hu hv]
  simp only [Option.bind_some]
  rw [iCreditsOk_ev u v k (by omega)]
  simp only [Option.bind_some]
  by_cases h1 : crB u v = true
  case neg => rw [if_neg h1, if_neg (fun h => h1 h.1)]
  rw [if_pos h1, iIsPacket_ev K f t a n g s l hl k (by omega)]
  simp only [Option.bind_some]
  by_cases hp : pkB K f t a n g s l = true
  case neg => rw [if_neg hp, if_neg (fun h => hp ((clI_yes K f t a n g s l).2 h.2.1))]
  have h0 : 0 ≤ (clI K f t a n g s l) := (clI_yes K f t a n g s l).1 hp
  obtain ⟨⟨l1, r1⟩, ⟨l2, r2⟩⟩ := crB_parts h1
  have b1 := r1 _ (rd_mem3 l1 (clI K f t a n g s l) ⟨h0, h2⟩)
  have b2 := r2 _ (rd_mem3 l2 (clI K f t a n g s l) ⟨h0, h2⟩)
  have b3 := un_range K f t a n g s l ((clI_yes K f t a n g s l).2 h0)
  rw [if_pos hp, iClassOf_ev K f t a n g s l hl k (by omega)]
  simp only [Option.bind_some]
  rw [if_pos h0, if_pos (by omega), if_pos h0, if_pos (by omega), iUnits_ev K f t a n g s l hl k (by omega)]
  simp only [Option.bind_some]
  rw [wrap_id (rd v (clI K f t a n g s l) + (unI K f t a n g s l)) (by omega), wrap_id (rd u (clI K f t a n g s l) + 1) (by omega), iCreditsOk_ev _ _ k (by omega)]
  simp only [Option.bind_some]
  by_cases hb : crB (u.set (clI K f t a n g s l).toNat (rd u (clI K f t a n g s l) + 1)) (v.set (clI K f t a n g s l).toNat (rd v (clI K f t a n g s l) + (unI K f t a n g s l))) = true
  · obtain ⟨⟨m1, s1⟩, ⟨m2, s2⟩⟩ := crB_parts hb
    have c1 := s1 _ (rd_mem3 m1 (clI K f t a n g s l) ⟨h0, h2⟩)
    have c2 := s2 _ (rd_mem3 m2 (clI K f t a n g s l) ⟨h0, h2⟩)
    rw [rd_set _ _ _ ⟨h0, by omega⟩] at c1 c2
    rw [if_pos hb, if_pos ⟨h1, h0, by omega, by omega⟩]
  · rw [if_neg hb, if_neg]
    intro h
    refine hb (crB_of (by rw [List.length_set]; exact l1) (fun z hz => ?_) (by rw [List.length_set]; exact l2) (fun z hz => ?_))
    · rcases List.mem_or_eq_of_mem_set hz with h' | h'
      · exact r1 z h'
      · rw [h']
        have := h.2.2.1
        omega
    · rcases List.mem_or_eq_of_mem_set hz with h' | h'
      · exact r2 z h'
      · rw [h']
        have := h.2.2.2
        omega
/-- What TellCredits makes of a channel. -/
def tellR (a b c d : List Int) (p q : List S38) : List Int × List Int × List Int × List Int × List S38 × List S38 × Bool :=
  if chB a b c d p q = true ∧ ¬ (q.length : Int) = 0 then (a, b, (rtF c d (rd_T38 q 0).f0 (rd_T38 q 0).f1 (rd_T38 q 0).f2 (rd_T38 q 0).f3 (rd_T38 q 0).f4 (rd_T38 q 0).f5 (rd_T38 q 0).f6 (rd_T38 q 0).f7).1, (rtF c d (rd_T38 q 0).f0 (rd_T38 q 0).f1 (rd_T38 q 0).f2 (rd_T38 q 0).f3 (rd_T38 q 0).f4 (rd_T38 q 0).f5 (rd_T38 q 0).f6 (rd_T38 q 0).f7).2.1, p, q.drop 1, true) else (a, b, c, d, p, q, false)
theorem sTell_ev (a b c d : List Int) (p q : List S38) (ha : a.length ≤ 1048576) (hb : b.length ≤ 1048576) (hc : c.length ≤ 1048576) (hd : d.length ≤ 1048576) (hp : p.length ≤ 1048576) (hsp : ∀ x ∈ p, SmallQ x) (hq : q.length ≤ 1048576) (hsq : ∀ x ∈ q, SmallQ x) (k : Nat) (hk : 3145800 < k) : spec_TellCredits.f k a b c d p q = some (tellR a b c d p q) := by
  unfold spec_TellCredits.f
  rw [sCopy_ev a b c d p q ha hb hc hd hp hsp hq hsq k (by omega)]
  simp only [Option.bind_some]
  rw [sChannelOk_ev a b c d p q ha hb hc hd hp hsp hq hsq k hk]
  simp only [Option.bind_some]
  unfold tellR
  by_cases h1 : chB a b c d p q = true
  case neg => rw [if_neg h1, if_neg (fun h => h1 h.1)]
  rw [if_pos h1]
  by_cases h2 : (q.length : Int) = 0
  case pos => rw [if_pos h2, if_neg (fun h => h.2 h2)]
  have hx : (rd_T38 q 0).f7.length ≤ 1048576 := by
    have := rdT_lt q 0 (by omega)
    rw [show rd_T38 q 0 = q[0]'(by omega) from this]
    exact hsq _ (List.getElem_mem (by omega))
  rw [if_neg h2, if_pos (Int.le_refl 0), if_pos (by omega), sRet_ev c d (rd_T38 q 0).f0 (rd_T38 q 0).f1 (rd_T38 q 0).f2 (rd_T38 q 0).f3 (rd_T38 q 0).f4 (rd_T38 q 0).f5 (rd_T38 q 0).f6 (rd_T38 q 0).f7 hc hd hx k (by omega)]
  simp only [Option.bind_some]
  rw [if_pos (Int.le_refl 0), if_pos (by omega), if_pos (show chB a b c d p q = true ∧ ¬ (q.length : Int) = 0 from ⟨h1, h2⟩)]
theorem iTell_ev (a b c d : List Int) (p q : List S38) (ha : a.length ≤ 1048576) (hb : b.length ≤ 1048576) (hc : c.length ≤ 1048576) (hd : d.length ≤ 1048576) (hp : p.length ≤ 1048576) (hsp : ∀ x ∈ p, SmallQ x) (hq : q.length ≤ 1048576) (hsq : ∀ x ∈ q, SmallQ x) (k : Nat) (hk : 3145800 < k) : impl_TellCredits.f k a b c d p q = some (tellR a b c d p q) := by
  unfold impl_TellCredits.f
  rw [iCopy_ev a b c d p q ha hb hc hd hp hsp hq hsq k (by omega)]
  simp only [Option.bind_some]
  rw [iChannelOk_ev a b c d p q ha hb hc hd hp hsp hq hsq k hk]
  simp only [Option.bind_some]
  unfold tellR
  by_cases h1 : chB a b c d p q = true
  case neg => rw [if_neg h1, if_neg (fun h => h1 h.1)]
  rw [if_pos h1]
  by_cases h2 : (q.length : Int) = 0
  case pos => rw [if_pos h2, if_neg (fun h => h.2 h2)]
  have hx : (rd_T38 q 0).f7.length ≤ 1048576 := by
    have := rdT_lt q 0 (by omega)
    rw [show rd_T38 q 0 = q[0]'(by omega) from this]
    exact hsq _ (List.getElem_mem (by omega))
  rw [if_neg h2, if_pos (Int.le_refl 0), if_pos (by omega), iRet_ev c d (rd_T38 q 0).f0 (rd_T38 q 0).f1 (rd_T38 q 0).f2 (rd_T38 q 0).f3 (rd_T38 q 0).f4 (rd_T38 q 0).f5 (rd_T38 q 0).f6 (rd_T38 q 0).f7 hc hd hx k (by omega)]
  simp only [Option.bind_some]
  rw [if_pos (Int.le_refl 0), if_pos (by omega), if_pos (show chB a b c d p q = true ∧ ¬ (q.length : Int) = 0 from ⟨h1, h2⟩)]
  have e : q.eraseIdx ((0 : Int)).toNat = q.drop 1 := by cases q <;> rfl
  rw [e]
theorem tellR_ok (a b c d : List Int) (p q : List S38) (ha : a.length ≤ 1048576) (hb : b.length ≤ 1048576) (hc : c.length ≤ 1048576) (hd : d.length ≤ 1048576) (hp : p.length ≤ 1048576) (hsp : ∀ x ∈ p, SmallQ x) (hq : q.length ≤ 1048576) (hsq : ∀ x ∈ q, SmallQ x) : ∃ A B C D P Q o, tellR a b c d p q = (A, B, C, D, P, Q, o) ∧ A.length ≤ 1048576 ∧ B.length ≤ 1048576 ∧ C.length ≤ 1048576 ∧ D.length ≤ 1048576 ∧ P.length ≤ 1048577 ∧ (∀ x ∈ P, SmallQ x) ∧ Q.length ≤ 1048577 ∧ (∀ x ∈ Q, SmallQ x) := by
  unfold tellR
  have hs := rtF_len c d (rd_T38 q 0).f0 (rd_T38 q 0).f1 (rd_T38 q 0).f2 (rd_T38 q 0).f3 (rd_T38 q 0).f4 (rd_T38 q 0).f5 (rd_T38 q 0).f6 (rd_T38 q 0).f7
  split
  · exact ⟨_, _, _, _, _, _, _, rfl, ha, hb, by omega, by omega, by omega, hsp, by rw [List.length_drop]; omega, fun x hx => hsq x (List.mem_of_mem_drop hx)⟩
  · exact ⟨_, _, _, _, _, _, _, rfl, ha, hb, hc, hd, by omega, hsp, by omega, hsq⟩
theorem FnExactTellCredits : laws_FnExactTellCredits.Pure := by
  intro u v y z p q ⟨mu, _⟩ ⟨mv, _⟩ ⟨my, _⟩ ⟨mz, _⟩ ⟨mp, fp⟩ ⟨mq, fq⟩
  obtain ⟨r, e1, e2⟩ := szChannel_ev u v y z p q 1048576 (by omega) (by omega) mu mv my mz mp (fun x hx => (fp x hx).2.2.2.2.2.2.2.1) mq (fun x hx => (fq x hx).2.2.2.2.2.2.2.1)
  refine ⟨3145900, ?_⟩
  unfold laws_FnExactTellCredits.f
  rw [e1 _ (by omega)]
  simp only [Option.bind_some]
  by_cases h0 : r < 0
  · rw [if_pos h0]
  obtain ⟨hu, hv, hy, hz, ⟨hp, hsp⟩, hq, hsq⟩ := e2 (by omega)
  have hp' : (p.map cvP).length ≤ 1048576 := by rw [List.length_map]; exact hp
  have hq' : (q.map cvP).length ≤ 1048576 := by rw [List.length_map]; exact hq
  have sp := cvP_small p hsp
  have sq := cvP_small q hsq
  rw [if_neg h0, toChannel_ev u v y z p q hu hv hy hz hp hsp hq hsq _ (by omega)]
  simp only [Option.bind_some]
  rw [sTell_ev u v y z _ _ hu hv hy hz hp' sp hq' sq _ (by omega), iTell_ev u v y z _ _ hu hv hy hz hp' sp hq' sq _ (by omega)]
  obtain ⟨A, B, C, D, P, Q, o, hR, hA, hB, hC, hD, hP, sP, hQ, sQ⟩ := tellR_ok u v y z _ _ hu hv hy hz hp' sp hq' sq
  obtain ⟨T, a', b', c', d', p', q', t0, t1, hm⟩ := mCh_ev u v y z (p.map cvP) (q.map cvP) hu hv hy hz (by omega) sp (by omega) sq
  obtain ⟨T', A', B', C', D', P', Q', T0, T1, HM⟩ := mCh_ev A B C D P Q hA hB hC hD hP sP hQ sQ
  have E1 := eqChannel_ev A B C D P Q hA hB hC hD hP sP hQ sQ 3145900 (by omega)
  have E3 := eqChannel_ev u v y z _ _ hu hv hy hz (by omega) sp (by omega) sq 3145900 (by omega)
  have M1 := (hm 3145900 (by omega)).1
  obtain ⟨M2, H2⟩ := HM 3145900 (by omega)
  have n1 : (T < 0) = False := eq_false (by omega)
  have n2 : (T' < 0) = False := eq_false (by omega)
  simp only [hR, Option.bind_some, E1, E3, M1, M2, H2, n1, n2, if_true, if_false]

end Go.Proofs.Ytlombfmebinjbaa.Pure
