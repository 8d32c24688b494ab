/- The statement FnExactIsLegalOrder over lists: for any packets and any row of places the program and the reference say alike whether it is a legal order, and the program leaves what it is given. What is larger than the law's own bound is let by, as the law itself does. -/
import Derived.Test.YtkapncihoabnmaaPFnExactIsLegalOrderx
import Derived.Test.YtkapncihoabnmaaVLists
namespace Go.Proofs.Ytkapncihoabnmaa.Pure
set_option linter.unusedVariables false
set_option linter.unusedSimpArgs false
open Go.RowKit Go.Proofs.Ytkapncihoabnmaa.PFnExactIsLegalOrder Go.Proofs.YtkapncihoabnmaaW.PrintWords Go.Proofs.YtkapncihoabnmaaW.PrintLast Go.Proofs.YtkapncihoabnmaaW.PrintMore Go.Proofs.YtkapncihoabnmaaX

theorem within_eq (a l m : Int) : impl_within.f a l m = some (decide (l ≤ a ∧ a ≤ m)) := by
  unfold impl_within.f
  by_cases h : a ≥ l
  · have h' : l ≤ a := h
    rw [if_pos h]; simp [h']
  · have h' : ¬ l ≤ a := h
    rw [if_neg h]; simp [h']
theorem l01In_eq (a l m : Int) : spec_l01In.f a l m = some (decide (l ≤ a ∧ a ≤ m)) := by
  unfold spec_l01In.f
  by_cases h : a ≥ l
  · have h' : l ≤ a := h
    rw [if_pos h]; simp [h']
  · have h' : ¬ l ≤ a := h
    rw [if_neg h]; simp [h']
theorem any_not {α : Type} (l : List α) (p : α → Bool) : (!l.any fun x => !p x) = l.all p := by
  induction l with
  | nil => rfl
  | cons a l ih => rw [List.any_cons, List.all_cons, Bool.not_or, ih, Bool.not_not]
theorem szIntS_eq (l : List Int) (left : Int) (h0 : 0 ≤ left) (h1 : left ≤ 1048576) (hl : l.length ≤ 9223372036854775807) : laws_szIntS.f l left = some (if left < l.length then -1 else left - l.length) := by
  unfold laws_szIntS.f
  rw [wrap_id _ (by omega)]
  by_cases h : left < l.length
  · rw [if_pos (by omega), if_pos h]
  · rw [if_neg (by omega), if_neg h]
theorem toIntS_l0 (l : List Int) (hb : l.length ≤ 1048576) (d : Nat) : ∀ (x : List Int) (i : Nat), x.length = l.length → x.take i = l.take i → i + d = l.length → ∀ k, d < k → laws_toIntS.l0 k l x (i : Int) = some l := by
  induction d with
  | zero =>
    intro x i hx ht hi k hk
    obtain ⟨k, rfl⟩ : ∃ m, k = m + 1 := ⟨k - 1, by omega⟩
    simp only [laws_toIntS.l0]
    rw [if_neg (show ¬ (i : Int) < (l.length : Int) by omega), fill_end x l i hx (by omega) ht]
  | succ d ih =>
    intro x i hx ht hi k hk
    obtain ⟨k, rfl⟩ : ∃ m, k = m + 1 := ⟨k - 1, by omega⟩
    simp only [laws_toIntS.l0]
    rw [if_pos (show (i : Int) < (l.length : Int) by omega), if_pos (show (0 : Int) ≤ (i : Int) by omega), if_pos (show (i : Int) < (x.length : Int) by omega), wrap_succ i (by omega), toNat_nat, rd_lt l i (by omega)]
    exact ih _ (i + 1) (by simp [hx]) (fill_step x l i _ (by omega) (by omega) ht rfl) (by omega) k (by omega)
theorem toIntS_ev (l : List Int) (hb : l.length ≤ 1048576) : ∀ k, l.length < k → laws_toIntS.f k l = some l := by
  intro k hk
  unfold laws_toIntS.f
  rw [if_pos (by omega), if_pos (by omega)]
  exact toIntS_l0 l hb l.length _ 0 (by simp) (by simp) (by omega) k hk
theorem eqIntS_l0 (a b : List Int) (hl : a.length = b.length) (hb : a.length < 9223372036854775807) (d : Nat) : ∀ (i : Nat), i + d = a.length → ∀ k, d < k → laws_eqIntS.l0 k a b (i : Int) = some (decide (a.drop i = b.drop i)) := by
  induction d with
  | zero =>
    intro i hi k hk
    obtain ⟨k, rfl⟩ : ∃ m, k = m + 1 := ⟨k - 1, by omega⟩
    simp only [laws_eqIntS.l0]
    rw [if_neg (show ¬ (i : Int) < (a.length : Int) by omega), drop_all a i (by omega), drop_all b i (by omega)]
    simp
  | succ d ih =>
    intro i hi k hk
    obtain ⟨k, rfl⟩ : ∃ m, k = m + 1 := ⟨k - 1, by omega⟩
    simp only [laws_eqIntS.l0]
    rw [if_pos (show (i : Int) < (a.length : Int) by omega), if_pos (show (0 : Int) ≤ (i : Int) by omega), if_pos (show (i : Int) < (b.length : Int) by omega)]
    by_cases he : rd a (i : Int) = rd b (i : Int)
    · rw [if_pos he, wrap_succ i (by omega), ih (i + 1) (by omega) k (by omega)]
      congr 1
      rw [decide_eq_decide, drop_eq_iff a b i (by omega) (by omega)]
      exact ⟨fun h => ⟨he, h⟩, fun h => h.2⟩
    · rw [if_neg he]
      congr 1
      symm
      rw [decide_eq_false_iff_not, drop_eq_iff a b i (by omega) (by omega)]
      exact fun h => he h.1
theorem eqIntS_ev (a b : List Int) (hb : a.length < 9223372036854775807) : ∀ k, a.length < k → laws_eqIntS.f k a b = some (decide (a = b)) := by
  intro k hk
  unfold laws_eqIntS.f
  by_cases hl : a.length = b.length
  · rw [if_pos (by omega)]
    exact eqIntS_l0 a b hl hb a.length 0 (by omega) k hk
  · rw [if_neg (by omega), decide_eq_false (fun h => hl (by rw [h]))]
def wordB (x : Int) : Bool := decide (0 ≤ x ∧ x ≤ 65535)
/-- A valid packet, kind by kind: its words are words (W), and it has m of them. -/
def pkQ (K f t a n g s : Int) (W : Bool) (m : Int) : Prop := (0 ≤ f ∧ f ≤ 255) ∧ W = true ∧
  ((K = 1 ∧ 1 ≤ m ∧ m ≤ 8 ∧ 0 ≤ a ∧ a ≤ 65536 - m ∧ s = 0 ∧ t = 0 ∧ n = 0 ∧ g = 0) ∨
   (K = 2 ∧ 1 ≤ m ∧ m ≤ 8 ∧ a = 0 ∧ s = 0 ∧ t = 0 ∧ n = 0 ∧ g = 0) ∨
   (K = 3 ∧ m = 0 ∧ 1 ≤ n ∧ n ≤ 64 ∧ 0 ≤ a ∧ a ≤ 65536 - n ∧ 0 ≤ g ∧ g ≤ 7 ∧ s = 0 ∧ t = 0) ∨
   (K = 4 ∧ m = 0 ∧ 0 ≤ a ∧ a ≤ 63 ∧ 0 ≤ t ∧ t ≤ 255 ∧ 0 ≤ g ∧ g ≤ 7 ∧ s = 0 ∧ n = 0) ∨
   (K = 5 ∧ m = 1 ∧ 0 ≤ a ∧ a ≤ 63 ∧ 0 ≤ t ∧ t ≤ 255 ∧ 0 ≤ g ∧ g ≤ 7 ∧ s = 0 ∧ n = 0) ∨
   (K = 6 ∧ a = 0 ∧ 0 ≤ t ∧ t ≤ 255 ∧ 0 ≤ g ∧ g ≤ 7 ∧ 0 ≤ s ∧ s ≤ 2 ∧ 0 ≤ n ∧ n ≤ 64 ∧ (m = 0 ∨ s = 0 ∧ m ≤ 8 ∧ m ≤ n)))
instance (K f t a n g s : Int) (W : Bool) (m : Int) : Decidable (pkQ K f t a n g s W m) := by unfold pkQ; infer_instance
def pkB (K f t a n g s : Int) (l : List Int) : Bool := decide (pkQ K f t a n g s (l.all wordB) (l.length : Int))
/-- Whether the data fit to the kind, as the program asks it. -/
def dataQ (K n s : Int) (m : Int) : Prop := (K = 1 ∨ K = 2) ∧ 1 ≤ m ∧ m ≤ 8 ∨ K = 5 ∧ m = 1 ∨ K = 6 ∧ s = 0 ∧ m ≤ 8 ∧ m ≤ n ∨ (K ≠ 1 ∧ K ≠ 2 ∧ K ≠ 5 ∧ ¬ (K = 6 ∧ s = 0)) ∧ m = 0
instance (K n s m : Int) : Decidable (dataQ K n s m) := by unfold dataQ; infer_instance
theorem sWords_l0 (l : List (Int)) (hl : l.length ≤ 1048576) (d : Nat) : ∀ i : Nat, i + d = l.length → ∀ k, 0 + d < k → spec_l04Words.l0 k l (i : Int) = some ((l.drop i).all wordB && true) := by
  induction d with
  | zero =>
    intro i hi k hk
    obtain ⟨k, rfl⟩ : ∃ m, k = m + 1 := ⟨k - 1, by omega⟩
    simp only [spec_l04Words.l0]
    rw [if_neg (show ¬ (i : Int) < (l.length : Int) by omega), drop_all l i (by omega)]
    simp
  | succ d ih =>
    intro i hi k hk
    obtain ⟨k, rfl⟩ : ∃ m, k = m + 1 := ⟨k - 1, by omega⟩
    have hlt : i < l.length := by omega
    simp only [spec_l04Words.l0]
    rw [if_pos (show (i : Int) < (l.length : Int) by omega), if_pos (show (0 : Int) ≤ (i : Int) by omega), rd_lt l i hlt, show spec_l01In.f l[i] 0 65535 = some (wordB l[i]) from l01In_eq _ _ _]
    simp only [Option.bind_some]
    by_cases hp : wordB l[i] = true
    · rw [if_pos hp, wrap_succ i (by omega), ih (i + 1) (by omega) k (by omega), drop_cons l i hlt, List.all_cons, hp, Bool.true_and]
    · rw [if_neg hp, drop_cons l i hlt, List.all_cons, Bool.eq_false_iff.mpr hp, Bool.false_and, Bool.false_and]
theorem sWords_ev (l : List Int) (hl : l.length ≤ 1048576) (k : Nat) (hk : l.length < k) : spec_l04Words.f k l = some (l.all wordB) := by
  have h := sWords_l0 l hl l.length 0 (by omega) k (by omega)
  rw [Bool.and_true] at h
  exact h
theorem notWord_eq (x : Int) : impl_Packet_dataOk_1.f x = some (!wordB x) := by
  unfold impl_Packet_dataOk_1.f impl_isWord.f
  rw [within_eq]
  rfl
theorem cWords_l0 (l : List (Int)) (hl : l.length ≤ 1048576) (d : Nat) : ∀ i : Nat, i + d = l.length → ∀ k, 0 + d < k → ∃ r, slices_IndexFunc_int_int__impl_Packet__dataOk_1.l0 k l (l.length : Int) (i : Int) = some r ∧ decide (r ≥ 0) = (l.drop i).any (fun x => !wordB x) := by
  induction d with
  | zero =>
    intro i hi k hk
    obtain ⟨k, rfl⟩ : ∃ m, k = m + 1 := ⟨k - 1, by omega⟩
    refine ⟨-1, ?_, ?_⟩
    · simp only [slices_IndexFunc_int_int__impl_Packet__dataOk_1.l0]
      rw [if_neg (show ¬ (i : Int) < (l.length : Int) by omega)]
    · rw [drop_all l i (by omega)]; rfl
  | succ d ih =>
    intro i hi k hk
    obtain ⟨k, rfl⟩ : ∃ m, k = m + 1 := ⟨k - 1, by omega⟩
    have hlt : i < l.length := by omega
    simp only [slices_IndexFunc_int_int__impl_Packet__dataOk_1.l0]
    rw [if_pos (show (i : Int) < (l.length : Int) by omega), if_pos (show (0 : Int) ≤ (i : Int) by omega), if_pos (show (i : Int) < (l.length : Int) by omega), rd_lt l i hlt, notWord_eq l[i]]
    simp only [Option.bind_some]
    by_cases hp : (fun x => !wordB x) l[i] = true
    · rw [if_pos hp]
      exact ⟨_, rfl, by rw [any_drop_yes l i hlt _ hp, decide_eq_true (by omega)]⟩
    · rw [if_neg hp, wrap_succ i (by omega)]
      obtain ⟨r, h1, h2⟩ := ih (i + 1) (by omega) k (by omega)
      exact ⟨r, h1, by rw [h2, any_drop_no l i hlt _ hp]⟩
theorem cWords_ev (l : List (Int)) (hl : l.length ≤ 1048576) (k : Nat) (hk : 0 + l.length < k) : slices_ContainsFunc_int_int__impl_Packet__dataOk_1.f k l = some (l.any (fun x => !wordB x)) := by
  obtain ⟨r, h1, h2⟩ := cWords_l0 l hl l.length 0 (by omega) k hk
  unfold slices_ContainsFunc_int_int__impl_Packet__dataOk_1.f slices_IndexFunc_int_int__impl_Packet__dataOk_1.f
  have c0 : ((0 : Nat) : Int) = 0 := rfl
  rw [c0] at h1
  rw [h1]
  simp only [Option.bind_some]
  rw [h2]; rfl
set_option maxHeartbeats 2000000 in
theorem sIsPacket_ev (K f t a n g s : Int) (l : List Int) (hl : l.length ≤ 1048576) (k : Nat) (hk : 1048580 < k) : spec_IsPacket.f k K f t a n g s l = some (pkB K f t a n g s l) := by
  obtain ⟨k, rfl⟩ : ∃ m, k = m + 1 := ⟨k - 1, by omega⟩
  unfold spec_IsPacket.f spec_IsId.f pkB
  rw [l01In_eq, sWords_ev l hl _ (by omega)]
  simp only [Option.bind_some, spec_IsPacket.j0, l01In_eq, spec_IsId.f, spec_l04Zero.f, Bool.false_eq_true, if_false, if_true, decide_eq_true_eq, Bool.not_eq_true']
  have hm : (0 : Int) ≤ (l.length : Int) ∧ (l.length : Int) ≤ 1048576 := by omega
  generalize (l.length : Int) = m at hm ⊢
  generalize l.all wordB = W
  by_cases hf : 0 ≤ f ∧ f ≤ 255
  case neg => rw [if_neg hf]; congr 1; symm; rw [decide_eq_false_iff_not]; unfold pkQ; exact fun h => hf h.1
  rw [if_pos hf]
  cases W
  case false => rw [if_pos rfl]; congr 1; symm; rw [decide_eq_false_iff_not]; unfold pkQ; simp
  rw [if_neg (by decide)]
  have w1 : wrap64 (65536 - m) = 65536 - m := wrap_id _ (by omega)
  rw [w1]
  by_cases k1 : K = 1
  · subst k1
    simp only [Int.reduceEq, if_true, if_false, Option.bind_some]
    all_goals repeat' (first | split | (simp only [Option.bind_some]; split))
    all_goals ((try simp only [Option.bind_some]); congr 1; rw [Bool.eq_iff_iff]; (try simp only [beq_iff_eq, decide_eq_true_eq, Bool.and_eq_true, Bool.false_eq_true]); unfold pkQ; (try unfold dataQ); (try simp only [eq_self, Bool.false_eq_true, true_and, false_and, and_false, false_iff, true_iff, iff_false, iff_true, not_false_eq_true, not_true_eq_false]); first | done | omega | ((try simp only [le_mn]); omega) | ((try simp only [wrap64, beq_eq_false_iff_ne, bne_iff_ne, beq_iff_eq, ne_eq, decide_eq_false_iff_not, Decidable.not_not, true_or, or_true, true_and, not_true_eq_false, not_false_eq_true, false_and, and_false, and_true, or_false, false_or, iff_false, iff_true, false_iff, true_iff, Int.reduceEq] at *); (try simp only [le_mn]); first | done | omega))
  by_cases k2 : K = 2
  · subst k2
    simp only [Int.reduceEq, if_true, if_false, Option.bind_some]
    all_goals repeat' (first | split | (simp only [Option.bind_some]; split))
    all_goals ((try simp only [Option.bind_some]); congr 1; rw [Bool.eq_iff_iff]; (try simp only [beq_iff_eq, decide_eq_true_eq, Bool.and_eq_true, Bool.false_eq_true]); unfold pkQ; (try unfold dataQ); (try simp only [eq_self, Bool.false_eq_true, true_and, false_and, and_false, false_iff, true_iff, iff_false, iff_true, not_false_eq_true, not_true_eq_false]); first | done | omega | ((try simp only [le_mn]); omega) | ((try simp only [wrap64, beq_eq_false_iff_ne, bne_iff_ne, beq_iff_eq, ne_eq, decide_eq_false_iff_not, Decidable.not_not, true_or, or_true, true_and, not_true_eq_false, not_false_eq_true, false_and, and_false, and_true, or_false, false_or, iff_false, iff_true, false_iff, true_iff, Int.reduceEq] at *); (try simp only [le_mn]); first | done | omega))
  by_cases k3 : K = 3
  · subst k3
    simp only [Int.reduceEq, if_true, if_false, Option.bind_some]
    by_cases hn : 1 ≤ n ∧ n ≤ 64
    · rw [wrap_id (65536 - n) (by omega)]
      repeat' (first | split | (simp only [Option.bind_some]; split))
      all_goals ((try simp only [Option.bind_some]); congr 1; rw [Bool.eq_iff_iff]; (try simp only [beq_iff_eq, decide_eq_true_eq, Bool.and_eq_true, Bool.false_eq_true]); unfold pkQ; (try unfold dataQ); (try simp only [eq_self, Bool.false_eq_true, true_and, false_and, and_false, false_iff, true_iff, iff_false, iff_true, not_false_eq_true, not_true_eq_false]); first | done | omega | ((try simp only [le_mn]); omega) | ((try simp only [wrap64, beq_eq_false_iff_ne, bne_iff_ne, beq_iff_eq, ne_eq, decide_eq_false_iff_not, Decidable.not_not, true_or, or_true, true_and, not_true_eq_false, not_false_eq_true, false_and, and_false, and_true, or_false, false_or, iff_false, iff_true, false_iff, true_iff, Int.reduceEq] at *); (try simp only [le_mn]); first | done | omega))
    simp only [hn, if_false]
    all_goals repeat' (first | split | (simp only [Option.bind_some]; split))
    all_goals ((try simp only [Option.bind_some]); congr 1; rw [Bool.eq_iff_iff]; (try simp only [beq_iff_eq, decide_eq_true_eq, Bool.and_eq_true, Bool.false_eq_true]); unfold pkQ; (try unfold dataQ); (try simp only [eq_self, Bool.false_eq_true, true_and, false_and, and_false, false_iff, true_iff, iff_false, iff_true, not_false_eq_true, not_true_eq_false]); first | done | omega | ((try simp only [le_mn]); omega) | ((try simp only [wrap64, beq_eq_false_iff_ne, bne_iff_ne, beq_iff_eq, ne_eq, decide_eq_false_iff_not, Decidable.not_not, true_or, or_true, true_and, not_true_eq_false, not_false_eq_true, false_and, and_false, and_true, or_false, false_or, iff_false, iff_true, false_iff, true_iff, Int.reduceEq] at *); (try simp only [le_mn]); first | done | omega))
  by_cases k4 : K = 4
  · subst k4
    simp only [Int.reduceEq, if_true, if_false, Option.bind_some]
    all_goals repeat' (first | split | (simp only [Option.bind_some]; split))
    all_goals ((try simp only [Option.bind_some]); congr 1; rw [Bool.eq_iff_iff]; (try simp only [beq_iff_eq, decide_eq_true_eq, Bool.and_eq_true, Bool.false_eq_true]); unfold pkQ; (try unfold dataQ); (try simp only [eq_self, Bool.false_eq_true, true_and, false_and, and_false, false_iff, true_iff, iff_false, iff_true, not_false_eq_true, not_true_eq_false]); first | done | omega | ((try simp only [le_mn]); omega) | ((try simp only [wrap64, beq_eq_false_iff_ne, bne_iff_ne, beq_iff_eq, ne_eq, decide_eq_false_iff_not, Decidable.not_not, true_or, or_true, true_and, not_true_eq_false, not_false_eq_true, false_and, and_false, and_true, or_false, false_or, iff_false, iff_true, false_iff, true_iff, Int.reduceEq] at *); (try simp only [le_mn]); first | done | omega))
  by_cases k5 : K = 5
  · subst k5
    simp only [Int.reduceEq, if_true, if_false, Option.bind_some]
    all_goals repeat' (first | split | (simp only [Option.bind_some]; split))
    all_goals ((try simp only [Option.bind_some]); congr 1; rw [Bool.eq_iff_iff]; (try simp only [beq_iff_eq, decide_eq_true_eq, Bool.and_eq_true, Bool.false_eq_true]); unfold pkQ; (try unfold dataQ); (try simp only [eq_self, Bool.false_eq_true, true_and, false_and, and_false, false_iff, true_iff, iff_false, iff_true, not_false_eq_true, not_true_eq_false]); first | done | omega | ((try simp only [le_mn]); omega) | ((try simp only [wrap64, beq_eq_false_iff_ne, bne_iff_ne, beq_iff_eq, ne_eq, decide_eq_false_iff_not, Decidable.not_not, true_or, or_true, true_and, not_true_eq_false, not_false_eq_true, false_and, and_false, and_true, or_false, false_or, iff_false, iff_true, false_iff, true_iff, Int.reduceEq] at *); (try simp only [le_mn]); first | done | omega))
  by_cases k6 : K = 6
  · subst k6
    simp only [Int.reduceEq, if_true, if_false, Option.bind_some]
    all_goals repeat' (first | split | (simp only [Option.bind_some]; split))
    all_goals ((try simp only [Option.bind_some]); congr 1; rw [Bool.eq_iff_iff]; (try simp only [beq_iff_eq, decide_eq_true_eq, Bool.and_eq_true, Bool.false_eq_true]); unfold pkQ; (try unfold dataQ); (try simp only [eq_self, Bool.false_eq_true, true_and, false_and, and_false, false_iff, true_iff, iff_false, iff_true, not_false_eq_true, not_true_eq_false]); first | done | omega | ((try simp only [le_mn]); omega) | ((try simp only [wrap64, beq_eq_false_iff_ne, bne_iff_ne, beq_iff_eq, ne_eq, decide_eq_false_iff_not, Decidable.not_not, true_or, or_true, true_and, not_true_eq_false, not_false_eq_true, false_and, and_false, and_true, or_false, false_or, iff_false, iff_true, false_iff, true_iff, Int.reduceEq] at *); (try simp only [le_mn]); first | done | omega))
  rw [if_neg k1, if_neg k2, if_neg k3, if_neg k4, if_neg k5, if_neg k6]
  ((try simp only [Option.bind_some]); congr 1; rw [Bool.eq_iff_iff]; (try simp only [beq_iff_eq, decide_eq_true_eq, Bool.and_eq_true, Bool.false_eq_true]); unfold pkQ; (try unfold dataQ); (try simp only [eq_self, Bool.false_eq_true, true_and, false_and, and_false, false_iff, true_iff, iff_false, iff_true, not_false_eq_true, not_true_eq_false]); first | done | omega | ((try simp only [le_mn]); omega) | ((try simp only [wrap64, beq_eq_false_iff_ne, bne_iff_ne, beq_iff_eq, ne_eq, decide_eq_false_iff_not, Decidable.not_not, true_or, or_true, true_and, not_true_eq_false, not_false_eq_true, false_and, and_false, and_true, or_false, false_or, iff_false, iff_true, false_iff, true_iff, Int.reduceEq] at *); (try simp only [le_mn]); first | done | omega))
theorem iDataOk_ev (K f t a n g s : Int) (l : List Int) (hl : l.length ≤ 1048576) (k : Nat) (hk : 1048580 < k) : impl_Packet_dataOk.f k K f t a n g s l = some (l.all wordB && decide (dataQ K n s (l.length : Int))) := by
  obtain ⟨k, rfl⟩ : ∃ m, k = m + 1 := ⟨k - 1, by omega⟩
  unfold impl_Packet_dataOk.f
  rw [cWords_ev l hl _ (by omega)]
  simp only [Option.bind_some, impl_Packet_dataOk.j0, within_eq, if_true]
  rw [← any_not l wordB]
  generalize (l.any fun x => !wordB x) = W
  generalize (l.length : Int) = m
  cases W
  all_goals simp only [Bool.false_eq_true, if_false, if_true, Bool.not_false, Bool.not_true, Bool.true_and, Bool.false_and, beq_iff_eq]
  all_goals repeat' split
  all_goals first | rfl | (congr 1; rw [Bool.eq_iff_iff]; simp only [beq_iff_eq, decide_eq_true_eq, Bool.false_eq_true, false_iff, true_iff]; unfold dataQ; omega)
set_option maxHeartbeats 2000000 in
theorem iIsPacket_ev (K f t a n g s : Int) (l : List Int) (hl : l.length ≤ 1048576) (k : Nat) (hk : 1048590 < k) : impl_IsPacket.f k K f t a n g s l = some (pkB K f t a n g s l) := by
  obtain ⟨k, rfl⟩ : ∃ m, k = m + 3 := ⟨k - 3, by omega⟩
  unfold impl_IsPacket.f impl_IsId.f impl_Packet_addressOk.f impl_Packet_lengthOk.f pkB
  simp only [Option.bind_some, within_eq, impl_IsPacket.j0, impl_IsPacket.j1, impl_IsPacket.j2, impl_Packet_addressOk.j0, impl_Packet_words.f, impl_IsId.f, iDataOk_ev K f t a n g s l hl _ (show 1048580 < k by omega), decide_eq_true_eq, Bool.not_eq_true', Bool.false_eq_true, if_false, if_true]
  have hm : (0 : Int) ≤ (l.length : Int) ∧ (l.length : Int) ≤ 1048576 := by omega
  generalize (l.length : Int) = m at hm ⊢
  generalize l.all wordB = W
  by_cases hf : 0 ≤ f ∧ f ≤ 255
  case neg =>
    simp only [hf, if_false, if_true, Bool.true_eq_false]
    have e : decide (pkQ K f t a n g s W m) = false := by rw [decide_eq_false_iff_not]; unfold pkQ; exact fun h => hf h.1
    rw [e]
    repeat' split
    all_goals rfl
  by_cases k1 : K = 1
  · subst k1
    simp only [Int.reduceEq, Int.reduceLE, Int.reduceBEq, hf, if_true, if_false, Option.bind_some, and_true, true_and, and_false, false_and, Bool.true_eq_false, Bool.false_eq_true]
    cases W
    all_goals repeat' (first | (simp only [Option.bind_some, decide_eq_true_eq, Bool.false_eq_true, if_false, if_true, Bool.false_and, Bool.true_and]) | split)
    all_goals ((try simp only [Option.bind_some]); congr 1; rw [Bool.eq_iff_iff]; (try simp only [beq_iff_eq, decide_eq_true_eq, Bool.and_eq_true, Bool.false_eq_true]); unfold pkQ; (try unfold dataQ); (try simp only [eq_self, Bool.false_eq_true, true_and, false_and, and_false, false_iff, true_iff, iff_false, iff_true, not_false_eq_true, not_true_eq_false]); first | done | omega | ((try simp only [le_mn]); omega) | ((try simp only [wrap64, beq_eq_false_iff_ne, bne_iff_ne, beq_iff_eq, ne_eq, decide_eq_false_iff_not, Decidable.not_not, true_or, or_true, true_and, not_true_eq_false, not_false_eq_true, false_and, and_false, and_true, or_false, false_or, iff_false, iff_true, false_iff, true_iff, Int.reduceEq] at *); (try simp only [le_mn]); first | done | omega))
  by_cases k2 : K = 2
  · subst k2
    simp only [Int.reduceEq, Int.reduceLE, Int.reduceBEq, hf, if_true, if_false, Option.bind_some, and_true, true_and, and_false, false_and, Bool.true_eq_false, Bool.false_eq_true]
    cases W
    all_goals repeat' (first | (simp only [Option.bind_some, decide_eq_true_eq, Bool.false_eq_true, if_false, if_true, Bool.false_and, Bool.true_and]) | split)
    all_goals ((try simp only [Option.bind_some]); congr 1; rw [Bool.eq_iff_iff]; (try simp only [beq_iff_eq, decide_eq_true_eq, Bool.and_eq_true, Bool.false_eq_true]); unfold pkQ; (try unfold dataQ); (try simp only [eq_self, Bool.false_eq_true, true_and, false_and, and_false, false_iff, true_iff, iff_false, iff_true, not_false_eq_true, not_true_eq_false]); first | done | omega | ((try simp only [le_mn]); omega) | ((try simp only [wrap64, beq_eq_false_iff_ne, bne_iff_ne, beq_iff_eq, ne_eq, decide_eq_false_iff_not, Decidable.not_not, true_or, or_true, true_and, not_true_eq_false, not_false_eq_true, false_and, and_false, and_true, or_false, false_or, iff_false, iff_true, false_iff, true_iff, Int.reduceEq] at *); (try simp only [le_mn]); first | done | omega))
  by_cases k3 : K = 3
  · subst k3
    simp only [Int.reduceEq, Int.reduceLE, Int.reduceBEq, hf, if_true, if_false, Option.bind_some, and_true, true_and, and_false, false_and, Bool.true_eq_false, Bool.false_eq_true]
    cases W
    all_goals repeat' (first | (simp only [Option.bind_some, decide_eq_true_eq, Bool.false_eq_true, if_false, if_true, Bool.false_and, Bool.true_and]) | split)
    all_goals ((try simp only [Option.bind_some]); congr 1; rw [Bool.eq_iff_iff]; (try simp only [beq_iff_eq, decide_eq_true_eq, Bool.and_eq_true, Bool.false_eq_true]); unfold pkQ; (try unfold dataQ); (try simp only [eq_self, Bool.false_eq_true, true_and, false_and, and_false, false_iff, true_iff, iff_false, iff_true, not_false_eq_true, not_true_eq_false]); first | done | omega | ((try simp only [le_mn]); omega) | ((try simp only [wrap64, beq_eq_false_iff_ne, bne_iff_ne, beq_iff_eq, ne_eq, decide_eq_false_iff_not, Decidable.not_not, true_or, or_true, true_and, not_true_eq_false, not_false_eq_true, false_and, and_false, and_true, or_false, false_or, iff_false, iff_true, false_iff, true_iff, Int.reduceEq] at *); (try simp only [le_mn]); first | done | omega))
  by_cases k4 : K = 4
  · subst k4
    simp only [Int.reduceEq, Int.reduceLE, Int.reduceBEq, hf, if_true, if_false, Option.bind_some, and_true, true_and, and_false, false_and, Bool.true_eq_false, Bool.false_eq_true]
    cases W
    all_goals repeat' (first | (simp only [Option.bind_some, decide_eq_true_eq, Bool.false_eq_true, if_false, if_true, Bool.false_and, Bool.true_and]) | split)
    all_goals ((try simp only [Option.bind_some]); congr 1; rw [Bool.eq_iff_iff]; (try simp only [beq_iff_eq, decide_eq_true_eq, Bool.and_eq_true, Bool.false_eq_true]); unfold pkQ; (try unfold dataQ); (try simp only [eq_self, Bool.false_eq_true, true_and, false_and, and_false, false_iff, true_iff, iff_false, iff_true, not_false_eq_true, not_true_eq_false]); first | done | omega | ((try simp only [le_mn]); omega) | ((try simp only [wrap64, beq_eq_false_iff_ne, bne_iff_ne, beq_iff_eq, ne_eq, decide_eq_false_iff_not, Decidable.not_not, true_or, or_true, true_and, not_true_eq_false, not_false_eq_true, false_and, and_false, and_true, or_false, false_or, iff_false, iff_true, false_iff, true_iff, Int.reduceEq] at *); (try simp only [le_mn]); first | done | omega))
  by_cases k5 : K = 5
  · subst k5
    simp only [Int.reduceEq, Int.reduceLE, Int.reduceBEq, hf, if_true, if_false, Option.bind_some, and_true, true_and, and_false, false_and, Bool.true_eq_false, Bool.false_eq_true]
    cases W
    all_goals repeat' (first | (simp only [Option.bind_some, decide_eq_true_eq, Bool.false_eq_true, if_false, if_true, Bool.false_and, Bool.true_and]) | split)
    all_goals ((try simp only [Option.bind_some]); congr 1; rw [Bool.eq_iff_iff]; (try simp only [beq_iff_eq, decide_eq_true_eq, Bool.and_eq_true, Bool.false_eq_true]); unfold pkQ; (try unfold dataQ); (try simp only [eq_self, Bool.false_eq_true, true_and, false_and, and_false, false_iff, true_iff, iff_false, iff_true, not_false_eq_true, not_true_eq_false]); first | done | omega | ((try simp only [le_mn]); omega) | ((try simp only [wrap64, beq_eq_false_iff_ne, bne_iff_ne, beq_iff_eq, ne_eq, decide_eq_false_iff_not, Decidable.not_not, true_or, or_true, true_and, not_true_eq_false, not_false_eq_true, false_and, and_false, and_true, or_false, false_or, iff_false, iff_true, false_iff, true_iff, Int.reduceEq] at *); (try simp only [le_mn]); first | done | omega))
  by_cases k6 : K = 6
  · subst k6
    simp only [Int.reduceEq, Int.reduceLE, Int.reduceBEq, hf, if_true, if_false, Option.bind_some, and_true, true_and, and_false, false_and, Bool.true_eq_false, Bool.false_eq_true]
    cases W
    all_goals repeat' (first | (simp only [Option.bind_some, decide_eq_true_eq, Bool.false_eq_true, if_false, if_true, Bool.false_and, Bool.true_and]) | split)
    all_goals ((try simp only [Option.bind_some]); congr 1; rw [Bool.eq_iff_iff]; (try simp only [beq_iff_eq, decide_eq_true_eq, Bool.and_eq_true, Bool.false_eq_true]); unfold pkQ; (try unfold dataQ); (try simp only [eq_self, Bool.false_eq_true, true_and, false_and, and_false, false_iff, true_iff, iff_false, iff_true, not_false_eq_true, not_true_eq_false]); first | done | omega | ((try simp only [le_mn]); omega) | ((try simp only [wrap64, beq_eq_false_iff_ne, bne_iff_ne, beq_iff_eq, ne_eq, decide_eq_false_iff_not, Decidable.not_not, true_or, or_true, true_and, not_true_eq_false, not_false_eq_true, false_and, and_false, and_true, or_false, false_or, iff_false, iff_true, false_iff, true_iff, Int.reduceEq] at *); (try simp only [le_mn]); first | done | omega))
  simp only [show ¬ (1 ≤ K ∧ K ≤ 6) by omega, if_false, if_true]
  ((try simp only [Option.bind_some]); congr 1; rw [Bool.eq_iff_iff]; (try simp only [beq_iff_eq, decide_eq_true_eq, Bool.and_eq_true, Bool.false_eq_true]); unfold pkQ; (try unfold dataQ); (try simp only [eq_self, Bool.false_eq_true, true_and, false_and, and_false, false_iff, true_iff, iff_false, iff_true, not_false_eq_true, not_true_eq_false]); first | done | omega | ((try simp only [le_mn]); omega) | ((try simp only [wrap64, beq_eq_false_iff_ne, bne_iff_ne, beq_iff_eq, ne_eq, decide_eq_false_iff_not, Decidable.not_not, true_or, or_true, true_and, not_true_eq_false, not_false_eq_true, false_and, and_false, and_true, or_false, false_or, iff_false, iff_true, false_iff, true_iff, Int.reduceEq] at *); (try simp only [le_mn]); first | done | omega))
theorem toPacket_ev (K f t a n g s : Int) (l : List Int) (hl : l.length ≤ 1048576) (k : Nat) (hk : 1048577 < k) : laws_toPacket.f k K f t a n g s l = some (K, f, t, a, n, g, s, l) := by
  unfold laws_toPacket.f
  rw [toIntS_ev l hl k (by omega)]
  rfl
theorem eqPacket_ev (K f t a n g s : Int) (l : List Int) (hl : l.length ≤ 1048576) (k : Nat) (hk : 1048577 < k) : laws_eqPacket.f k K f t a n g s l K f t a n g s l = some true := by
  unfold laws_eqPacket.f
  rw [if_pos rfl, if_pos rfl, if_pos rfl, if_pos rfl, if_pos rfl, if_pos rfl, if_pos rfl, eqIntS_ev l l (by omega) k (by omega)]
  simp
theorem szPacket_eq (K f t a n g s : Int) (l : List Int) (left : Int) (h0 : 0 ≤ left) (h1 : left ≤ 1048576) (hl : l.length ≤ 9223372036854775807) : ∃ r, laws_szPacket.f K f t a n g s l left = some r ∧ r ≤ left ∧ (0 ≤ r → r = left - l.length) := by
  unfold laws_szPacket.f
  rw [szIntS_eq l left h0 h1 hl]
  simp only [Option.bind_some]
  by_cases hx : left < l.length
  · rw [if_pos hx, if_pos (by omega)]
    exact ⟨_, rfl, by omega, fun h => by omega⟩
  · rw [if_neg hx, if_neg (by omega)]
    exact ⟨_, rfl, by omega, fun h => rfl⟩
/-- The class of a packet: -1 where it is none. -/
def clI (K f t a n g s : Int) (l : List Int) : Int := if pkB K f t a n g s l = true then (if K = 1 then 0 else if K = 2 then 0 else if K = 6 then 2 else 1) else -1
theorem sClassOf_ev (K f t a n g s : Int) (l : List Int) (hl : l.length ≤ 1048576) (k : Nat) (hk : 1048590 < k) : spec_ClassOf.f k K f t a n g s l = some (clI K f t a n g s l) := by
  unfold spec_ClassOf.f clI
  rw [sIsPacket_ev K f t a n g s l hl k (by omega)]
  obtain ⟨k, rfl⟩ : ∃ m, k = m + 1 := ⟨k - 1, by omega⟩
  simp only [Option.bind_some, spec_ClassOf.j0, beq_iff_eq]
  cases pkB K f t a n g s l
  all_goals repeat' split
  all_goals first | rfl | (exfalso; omega) | simp_all
theorem iClassOf_ev (K f t a n g s : Int) (l : List Int) (hl : l.length ≤ 1048576) (k : Nat) (hk : 1048590 < k) : impl_ClassOf.f k K f t a n g s l = some (clI K f t a n g s l) := by
  unfold impl_ClassOf.f impl_classOf.f clI
  rw [iIsPacket_ev K f t a n g s l hl k (by omega)]
  obtain ⟨k, rfl⟩ : ∃ m, k = m + 1 := ⟨k - 1, by omega⟩
  simp only [Option.bind_some, impl_classOf.j0, beq_iff_eq]
  cases pkB K f t a n g s l
  all_goals repeat' split
  all_goals first | rfl | (exfalso; omega) | simp_all
theorem clI_yes (K f t a n g s : Int) (l : List Int) : pkB K f t a n g s l = true ↔ 0 ≤ clI K f t a n g s l := by
  unfold clI
  cases pkB K f t a n g s l
  · simp
  · simp
    repeat' split
    all_goals omega
def mayB (c d : Int) (t g t' g' : Int) : Bool := decide (0 ≤ c ∧ 0 < d ∧ ¬ (c = 2 ∧ d = 2 ∧ t = t' ∧ g = g'))
theorem sMay_ev (K f t a n g s : Int) (l : List Int) (K' f' t' a' n' g' s' : Int) (l' : List Int) (hl : l.length ≤ 1048576) (hl' : l'.length ≤ 1048576) (k : Nat) (hk : 1048590 < k) : spec_MayPass.f k K f t a n g s l K' f' t' a' n' g' s' l' = some (mayB (clI K f t a n g s l) (clI K' f' t' a' n' g' s' l') t g t' g') := by
  unfold spec_MayPass.f
  rw [sClassOf_ev K f t a n g s l hl k hk, sClassOf_ev K' f' t' a' n' g' s' l' hl' k hk]
  simp only [Option.bind_some]
  unfold mayB
  generalize clI K f t a n g s l = c
  generalize clI K' f' t' a' n' g' s' l' = d
  repeat' split
  all_goals (congr 1; rw [Bool.eq_iff_iff]; simp only [decide_eq_true_eq, Bool.false_eq_true, bne_iff_ne, ne_eq, false_iff, true_iff]; omega)
theorem iMay_ev (K f t a n g s : Int) (l : List Int) (K' f' t' a' n' g' s' : Int) (l' : List Int) (hl : l.length ≤ 1048576) (hl' : l'.length ≤ 1048576) (k : Nat) (hk : 1048600 < k) : impl_MayPass.f k K f t a n g s l K' f' t' a' n' g' s' l' = some (mayB (clI K f t a n g s l) (clI K' f' t' a' n' g' s' l') t g t' g') := by
  unfold impl_MayPass.f
  obtain ⟨k, rfl⟩ : ∃ m, k = m + 1 := ⟨k - 1, by omega⟩
  rw [iIsPacket_ev K f t a n g s l hl _ (by omega), iIsPacket_ev K' f' t' a' n' g' s' l' hl' _ (by omega), iClassOf_ev K' f' t' a' n' g' s' l' hl' _ (by omega)]
  simp only [Option.bind_some, impl_MayPass.j0]
  rw [iClassOf_ev K f t a n g s l hl _ (by omega), iClassOf_ev K' f' t' a' n' g' s' l' hl' _ (by omega)]
  simp only [Option.bind_some, beq_iff_eq]
  have e1 := clI_yes K f t a n g s l
  have e2 := clI_yes K' f' t' a' n' g' s' l'
  unfold mayB
  generalize clI K f t a n g s l = c at e1 ⊢
  generalize clI K' f' t' a' n' g' s' l' = d at e2 ⊢
  generalize pkB K f t a n g s l = p at e1 ⊢
  generalize pkB K' f' t' a' n' g' s' l' = q at e2 ⊢
  cases p <;> cases q
  all_goals simp only [Bool.false_eq_true, if_false, if_true, false_iff, true_iff] at e1 e2 ⊢
  all_goals repeat' split
  all_goals (congr 1; rw [Bool.eq_iff_iff]; simp only [decide_eq_true_eq, Bool.false_eq_true, bne_iff_ne, ne_eq, false_iff, true_iff]; omega)
def SmallP (x : S32) : Prop := x.f7.length ≤ 1048576
def FitP (x : S32) : Prop := x.f7.length ≤ 9223372036854775807
def SmallQ (x : S35) : Prop := x.f7.length ≤ 1048576
/-- The same packet, once as the law holds it, once as the program does. -/
def cvP (x : S32) : S35 := ⟨x.f0, x.f1, x.f2, x.f3, x.f4, x.f5, x.f6, x.f7⟩
theorem cvP_small (l : List S32) (h : ∀ x ∈ l, SmallP x) : ∀ y ∈ l.map cvP, SmallQ y := by
  intro y hy
  obtain ⟨x, hx, rfl⟩ := List.mem_map.1 hy
  exact h x hx
def pkE (x : S35) : Bool := pkB x.f0 x.f1 x.f2 x.f3 x.f4 x.f5 x.f6 x.f7
theorem rdP_lt (l : List (S32)) (i : Nat) (h : i < l.length) : rd_T32 l (i : Int) = l[i] := by
  show l.getD i z32 = l[i]
  simp [h]
theorem rdQ_lt (l : List (S35)) (i : Nat) (h : i < l.length) : rd_T35 l (i : Int) = l[i] := by
  show l.getD i z35 = l[i]
  simp [h]
theorem szP (x : S32) (left : Int) (h0 : 0 ≤ left) (h1 : left ≤ 1048576) (hw : FitP x) : ∃ r, laws_szPacket.f x.f0 x.f1 x.f2 x.f3 x.f4 x.f5 x.f6 x.f7 left = some r ∧ r ≤ left ∧ (0 ≤ r → SmallP x) := by
  obtain ⟨r, e, hr, hr'⟩ := szPacket_eq x.f0 x.f1 x.f2 x.f3 x.f4 x.f5 x.f6 x.f7 left h0 h1 hw
  exact ⟨r, e, hr, fun h => by have := hr' h; unfold SmallP; omega⟩
theorem szPacketS_l0 (l : List (S32)) (hl : l.length ≤ 1048576) (hw : ∀ x ∈ l, FitP x) (d : Nat) : ∀ (i : Nat) (left : Int), 0 ≤ left → left ≤ 1048576 → i + d = l.length → ∃ r, (∀ k, d < k → laws_szPacketS.l0 k l left (i : Int) = some r) ∧ r ≤ left ∧ (0 ≤ r → ∀ x ∈ l.drop i, SmallP x) := by
  induction d with
  | zero =>
    intro i left h0 h1 hi
    refine ⟨left, fun k hk => ?_, Int.le_refl _, fun _ x hx => ?_⟩
    · obtain ⟨k, rfl⟩ : ∃ m, k = m + 1 := ⟨k - 1, by omega⟩
      simp only [laws_szPacketS.l0]
      rw [if_neg (show ¬ (i : Int) < (l.length : Int) by omega)]
    · rw [drop_all l i (by omega)] at hx; cases hx
  | succ d ih =>
    intro i left h0 h1 hi
    have hlt : i < l.length := by omega
    obtain ⟨q, e, hq1, hq2⟩ := szP l[i] left h0 h1 (hw _ (List.getElem_mem hlt))
    by_cases hq : q < 0
    · refine ⟨-1, fun k hk => ?_, by omega, fun h => by omega⟩
      obtain ⟨k, rfl⟩ : ∃ m, k = m + 1 := ⟨k - 1, by omega⟩
      simp only [laws_szPacketS.l0]
      rw [if_pos (show (i : Int) < (l.length : Int) by omega), if_pos (show (0 : Int) ≤ (i : Int) by omega), rdP_lt l i hlt, e]
      simp only [Option.bind_some]
      rw [if_pos hq]
    · obtain ⟨r, hr1, hr2, hr3⟩ := ih (i + 1) q (by omega) (by omega) (by omega)
      refine ⟨r, fun k hk => ?_, by omega, fun h x hx => ?_⟩
      · obtain ⟨k, rfl⟩ : ∃ m, k = m + 1 := ⟨k - 1, by omega⟩
        simp only [laws_szPacketS.l0]
        rw [if_pos (show (i : Int) < (l.length : Int) by omega), if_pos (show (0 : Int) ≤ (i : Int) by omega), rdP_lt l i hlt, e]
        simp only [Option.bind_some]
        rw [if_neg hq, wrap_succ i (by omega)]
        exact hr1 k (by omega)
      · rw [drop_cons l i hlt] at hx
        rcases List.mem_cons.1 hx with rfl | hx
        · exact hq2 (by omega)
        · exact hr3 h x hx
theorem szPacketS_ev (l : List (S32)) (left : Int) (h0 : 0 ≤ left) (h1 : left ≤ 1048576) (hm : l.length ≤ 9223372036854775807) (hw : ∀ x ∈ l, FitP x) : ∃ r, (∀ k, 1048577 ≤ k → laws_szPacketS.f k l left = some r) ∧ r ≤ left ∧ (0 ≤ r → l.length ≤ 1048576 ∧ ∀ x ∈ l, SmallP x) := by
  unfold laws_szPacketS.f
  rw [wrap_id _ (by omega)]
  by_cases h : left - (l.length : Int) < 0
  · refine ⟨-1, fun k hk => ?_, by omega, fun h => by omega⟩
    rw [if_pos h]
  · obtain ⟨r, hr1, hr2, hr3⟩ := szPacketS_l0 l (by omega) hw l.length 0 (left - (l.length : Int)) (by omega) (by omega) (by omega)
    refine ⟨r, fun k hk => ?_, by omega, fun h => ⟨by omega, fun x hx => hr3 h x (by simpa using hx)⟩⟩
    rw [if_neg h]
    exact hr1 k (by omega)
theorem toPacketS_l0 (l : List S32) (hb : l.length ≤ 1048576) (he : ∀ x ∈ l, SmallP x) (d : Nat) : ∀ (x : List S35) (i : Nat), x.length = l.length → x.take i = (l.map cvP).take i → i + d = l.length → ∀ k, 1048590 + d < k → laws_toPacketS.l0 k l x (i : Int) = some (l.map cvP) := by
  induction d with
  | zero =>
    intro x i hx ht hi k hk
    obtain ⟨k, rfl⟩ : ∃ m, k = m + 1 := ⟨k - 1, by omega⟩
    simp only [laws_toPacketS.l0]
    rw [if_neg (show ¬ (i : Int) < (l.length : Int) by omega), fill_end x (l.map cvP) i (by simp [hx]) (by simp; omega) ht]
  | succ d ih =>
    intro x i hx ht hi k hk
    obtain ⟨k, rfl⟩ : ∃ m, k = m + 1 := ⟨k - 1, by omega⟩
    have hlt : i < l.length := by omega
    have hs := he _ (List.getElem_mem hlt)
    unfold SmallP at hs
    simp only [laws_toPacketS.l0]
    rw [if_pos (show (i : Int) < (l.length : Int) by omega), if_pos (show (0 : Int) ≤ (i : Int) by omega), rdP_lt l i hlt, toPacket_ev l[i].f0 l[i].f1 l[i].f2 l[i].f3 l[i].f4 l[i].f5 l[i].f6 l[i].f7 hs k (by omega)]
    simp only [Option.bind_some]
    rw [if_pos (show (i : Int) < (x.length : Int) by omega), wrap_succ i (by omega), toNat_nat]
    exact ih _ (i + 1) (by simp [hx]) (fill_step x (l.map cvP) i _ (by omega) (by simp; omega) ht (by rw [List.getElem_map]; rfl)) (by omega) k (by omega)
theorem toPacketS_ev (l : List S32) (hb : l.length ≤ 1048576) (he : ∀ x ∈ l, SmallP x) : ∀ k, 2097170 < k → laws_toPacketS.f k l = some (l.map cvP) := by
  intro k hk
  unfold laws_toPacketS.f
  rw [if_pos (by omega), if_pos (by omega)]
  exact toPacketS_l0 l hb he l.length _ 0 (by simp) (by simp) (by omega) k (by omega)
theorem eqPacketS_l0 (l : List S35) (hb : l.length ≤ 1048576) (he : ∀ x ∈ l, SmallQ x) (d : Nat) : ∀ (i : Nat), i + d = l.length → ∀ k, 1048590 + d < k → laws_eqPacketS.l0 k l l (i : Int) = some true := by
  induction d with
  | zero =>
    intro i hi k hk
    obtain ⟨k, rfl⟩ : ∃ m, k = m + 1 := ⟨k - 1, by omega⟩
    simp only [laws_eqPacketS.l0]
    rw [if_neg (show ¬ (i : Int) < (l.length : Int) by omega)]
  | succ d ih =>
    intro i hi k hk
    obtain ⟨k, rfl⟩ : ∃ m, k = m + 1 := ⟨k - 1, by omega⟩
    have hlt : i < l.length := by omega
    have hs := he _ (List.getElem_mem hlt)
    unfold SmallQ at hs
    simp only [laws_eqPacketS.l0]
    rw [if_pos (show (i : Int) < (l.length : Int) by omega), if_pos (show (0 : Int) ≤ (i : Int) by omega), if_pos (show (i : Int) < (l.length : Int) by omega), rdQ_lt l i hlt, eqPacket_ev l[i].f0 l[i].f1 l[i].f2 l[i].f3 l[i].f4 l[i].f5 l[i].f6 l[i].f7 hs k (by omega)]
    simp only [Option.bind_some, if_true]
    rw [wrap_succ i (by omega)]
    exact ih (i + 1) (by omega) k (by omega)
theorem eqPacketS_ev (l : List S35) (hb : l.length ≤ 1048576) (he : ∀ x ∈ l, SmallQ x) : ∀ k, 2097170 < k → laws_eqPacketS.f k l l = some true := by
  intro k hk
  unfold laws_eqPacketS.f
  rw [if_pos rfl]
  exact eqPacketS_l0 l hb he l.length 0 (by omega) k (by omega)
def clE (x : S35) : Int := clI x.f0 x.f1 x.f2 x.f3 x.f4 x.f5 x.f6 x.f7
theorem sCl (k : Nat) (x : S35) (h : SmallQ x) (hk : 1048590 < k) : spec_ClassOf.f k x.f0 x.f1 x.f2 x.f3 x.f4 x.f5 x.f6 x.f7 = some (clE x) := sClassOf_ev x.f0 x.f1 x.f2 x.f3 x.f4 x.f5 x.f6 x.f7 h k hk
theorem iCl (k : Nat) (x : S35) (h : SmallQ x) (hk : 1048590 < k) : impl_ClassOf.f k x.f0 x.f1 x.f2 x.f3 x.f4 x.f5 x.f6 x.f7 = some (clE x) := iClassOf_ev x.f0 x.f1 x.f2 x.f3 x.f4 x.f5 x.f6 x.f7 h k hk
def mayE (x y : S35) : Bool := mayB (clE x) (clE y) x.f2 x.f5 y.f2 y.f5
theorem sMay (k : Nat) (x y : S35) (h : SmallQ x) (h' : SmallQ y) (hk : 1048600 < k) : spec_MayPass.f k x.f0 x.f1 x.f2 x.f3 x.f4 x.f5 x.f6 x.f7 y.f0 y.f1 y.f2 y.f3 y.f4 y.f5 y.f6 y.f7 = some (mayE x y) := sMay_ev x.f0 x.f1 x.f2 x.f3 x.f4 x.f5 x.f6 x.f7 y.f0 y.f1 y.f2 y.f3 y.f4 y.f5 y.f6 y.f7 h h' k (by omega)
theorem iMay (k : Nat) (x y : S35) (h : SmallQ x) (h' : SmallQ y) (hk : 1048600 < k) : impl_MayPass.f k x.f0 x.f1 x.f2 x.f3 x.f4 x.f5 x.f6 x.f7 y.f0 y.f1 y.f2 y.f3 y.f4 y.f5 y.f6 y.f7 = some (mayE x y) := iMay_ev x.f0 x.f1 x.f2 x.f3 x.f4 x.f5 x.f6 x.f7 y.f0 y.f1 y.f2 y.f3 y.f4 y.f5 y.f6 y.f7 h h' k (by omega)
theorem small_rd (p : List S35) (hs : ∀ x ∈ p, SmallQ x) (y : Int) : SmallQ (rd_T35 p y) := by
  unfold rd_T35
  rw [List.getD_eq_getElem?_getD]
  cases h : p[y.toNat]? with
  | none => show ([] : List Int).length ≤ 1048576; simp
  | some x => exact hs x (List.mem_of_getElem? h)
/-- Whether the packet told first may stand behind a later one that was told before it. -/
def jB (p : List S35) (v y : Int) : Bool := if v < y then mayE (rd_T35 p y) (rd_T35 p v) else true
def inB (n : Nat) (v : Int) : Bool := decide (0 ≤ v ∧ v ≤ (n : Int) - 1)
def legalB (p : List S35) : List Int → List Int → Bool
  | _, [] => true
  | pre, v :: r => inB p.length v && (!(decide (v ∈ pre)) && (pre.all (jB p v) && legalB p (pre ++ [v]) r))
theorem has_l0 (v : Int) (l : List Int) (hl : l.length ≤ 1048576) (d : Nat) : ∀ i : Nat, i + d = l.length → ∀ k, d < k → ∃ r, slices_Index_int_int.l0 k l v (l.length : Int) (i : Int) = some r ∧ decide (r ≥ 0) = decide (v ∈ l.drop i) := by
  induction d with
  | zero =>
    intro i hi k hk
    obtain ⟨k, rfl⟩ : ∃ m, k = m + 1 := ⟨k - 1, by omega⟩
    refine ⟨-1, ?_, ?_⟩
    · simp only [slices_Index_int_int.l0]
      rw [if_neg (show ¬ (i : Int) < (l.length : Int) by omega)]
    · rw [drop_all l i (by omega)]; simp
  | succ d ih =>
    intro i hi k hk
    obtain ⟨k, rfl⟩ : ∃ m, k = m + 1 := ⟨k - 1, by omega⟩
    have hlt : i < l.length := by omega
    simp only [slices_Index_int_int.l0]
    rw [if_pos (show (i : Int) < (l.length : Int) by omega), if_pos (show (0 : Int) ≤ (i : Int) by omega), if_pos (show (i : Int) < (l.length : Int) by omega), rd_lt l i hlt, drop_cons l i hlt]
    by_cases hp : v = l[i]
    · rw [if_pos hp]
      exact ⟨_, rfl, by rw [decide_eq_true (by omega), decide_eq_true (by rw [← hp]; exact List.mem_cons_self)]⟩
    · rw [if_neg hp, wrap_succ i (by omega)]
      obtain ⟨r, h1, h2⟩ := ih (i + 1) (by omega) k (by omega)
      exact ⟨r, h1, by rw [h2, decide_eq_decide, List.mem_cons]; exact ⟨Or.inr, fun h => h.resolve_left hp⟩⟩
theorem has_ev (v : Int) (l : List Int) (hl : l.length ≤ 1048576) (k : Nat) (hk : l.length < k) : slices_Contains_int_int.f k l v = some (decide (v ∈ l)) := by
  obtain ⟨r, h1, h2⟩ := has_l0 v l hl l.length 0 (by omega) k hk
  unfold slices_Contains_int_int.f slices_Index_int_int.f
  have c0 : ((0 : Nat) : Int) = 0 := rfl
  rw [c0] at h1
  rw [h1]
  simp only [Option.bind_some]
  rw [h2]; rfl
theorem rdOf_set (l : List Bool) (v y : Int) (hv : 0 ≤ v ∧ v < (l.length : Int)) (hy : 0 ≤ y) : rdOf false (l.set v.toNat true) y = (decide (y = v) || rdOf false l y) := by
  show (l.set v.toNat true).getD y.toNat false = (decide (y = v) || l.getD y.toNat false)
  rw [List.getD_eq_getElem?_getD, List.getD_eq_getElem?_getD, List.getElem?_set]
  by_cases h : y = v
  · subst h
    rw [if_pos rfl, if_pos (by omega)]
    simp
  · rw [if_neg (by omega), decide_eq_false h, Bool.false_or]
theorem spec_in (p : List S35) (hs : ∀ x ∈ p, SmallQ x) (o : List Int) (ho : o.length ≤ 1048576) (seen : List Bool) (i : Nat) (hi : i < o.length) (hv : ∀ v ∈ o.take (i + 1), 0 ≤ v ∧ v < (p.length : Int)) (R : Bool) (K : Nat) (hK : 1048600 ≤ K) (hR : ∀ k, K < k → spec_IsLegalOrder.l0 k p o seen ((i + 1 : Nat) : Int) = some R) (d : Nat) : ∀ j : Nat, j + d = i → ∀ k, K + d + 1 < k → spec_IsLegalOrder.l1 k p o seen (i : Int) (j : Int) = some (((o.take i).drop j).all (jB p o[i]) && R) := by
  have hvi : 0 ≤ o[i] ∧ o[i] < (p.length : Int) := hv _ (List.mem_take_iff_getElem.2 ⟨i, by omega, rfl⟩)
  induction d with
  | zero =>
    intro j hj k hk
    obtain ⟨k, rfl⟩ : ∃ m, k = m + 1 := ⟨k - 1, by omega⟩
    simp only [spec_IsLegalOrder.l1]
    rw [if_neg (show ¬ (j : Int) < (i : Int) by omega), wrap_succ i (by omega), hR k (by omega), drop_all (o.take i) j (by simp; omega), List.all_nil, Bool.true_and]
  | succ d ih =>
    intro j hj k hk
    obtain ⟨k, rfl⟩ : ∃ m, k = m + 1 := ⟨k - 1, by omega⟩
    have hj1 : j < i := by omega
    have hj2 : j < o.length := by omega
    have hj3 : j < (o.take i).length := by rw [List.length_take]; omega
    have hvj : 0 ≤ o[j] ∧ o[j] < (p.length : Int) := hv _ (List.mem_take_iff_getElem.2 ⟨j, by omega, rfl⟩)
    have ih := ih (j + 1) (by omega) k (by omega)
    simp only [spec_IsLegalOrder.l1]
    rw [if_pos (show (j : Int) < (i : Int) by omega), if_pos (show (0 : Int) ≤ (i : Int) by omega), if_pos (show (i : Int) < (o.length : Int) by omega), if_pos (show (0 : Int) ≤ (j : Int) by omega), if_pos (show (j : Int) < (o.length : Int) by omega), rd_lt o i hi, rd_lt o j hj2]
    rw [drop_cons (o.take i) j hj3, List.all_cons, List.getElem_take]
    have hb : jB p o[i] o[j] = if o[i] < o[j] then mayE (rd_T35 p o[j]) (rd_T35 p o[i]) else true := rfl
    by_cases hlt : o[i] < o[j]
    · rw [if_pos hlt, if_pos hvj.1, if_pos hvj.2, if_pos hvi.1, if_pos hvi.2, sMay k _ _ (small_rd p hs o[j]) (small_rd p hs o[i]) (by omega)]
      simp only [Option.bind_some]
      rw [hb, if_pos hlt]
      by_cases hm : mayE (rd_T35 p o[j]) (rd_T35 p o[i]) = true
      · rw [if_pos hm, hm, Bool.true_and, wrap_succ j (by omega), ih]
      · rw [if_neg hm, Bool.eq_false_iff.mpr hm, Bool.false_and, Bool.false_and]
    · rw [if_neg hlt, hb, if_neg hlt, Bool.true_and, wrap_succ j (by omega), ih]
theorem impl_in (p : List S35) (hs : ∀ x ∈ p, SmallQ x) (o : List Int) (ho : o.length ≤ 1048576) (i : Nat) (hi : i < o.length) (hv : ∀ v ∈ o.take (i + 1), 0 ≤ v ∧ v < (p.length : Int)) (R : Bool) (K : Nat) (hK : 1048600 ≤ K) (hR : ∀ k, K < k → impl_IsLegalOrder.l0 k p o o (o.length : Int) ((i + 1 : Nat) : Int) = some R) (d : Nat) : ∀ j : Nat, j + d = i → ∀ k, K + d + 1 < k → impl_IsLegalOrder.l1 k p o o[i] o (o.length : Int) (i : Int) (o.take i) ((o.take i).length : Int) (j : Int) = some (((o.take i).drop j).all (jB p o[i]) && R) := by
  have hvi : 0 ≤ o[i] ∧ o[i] < (p.length : Int) := hv _ (List.mem_take_iff_getElem.2 ⟨i, by omega, rfl⟩)
  induction d with
  | zero =>
    intro j hj k hk
    obtain ⟨k, rfl⟩ : ∃ m, k = m + 1 := ⟨k - 1, by omega⟩
    simp only [impl_IsLegalOrder.l1]
    rw [if_neg (show ¬ (j : Int) < ((o.take i).length : Int) by rw [List.length_take]; omega), wrap_succ i (by omega), hR k (by omega), drop_all (o.take i) j (by simp; omega), List.all_nil, Bool.true_and]
  | succ d ih =>
    intro j hj k hk
    obtain ⟨k, rfl⟩ : ∃ m, k = m + 1 := ⟨k - 1, by omega⟩
    have hj1 : j < i := by omega
    have hj2 : j < o.length := by omega
    have hj3 : j < (o.take i).length := by rw [List.length_take]; omega
    have hvj : 0 ≤ o[j] ∧ o[j] < (p.length : Int) := hv _ (List.mem_take_iff_getElem.2 ⟨j, by omega, rfl⟩)
    have ih := ih (j + 1) (by omega) k (by omega)
    simp only [impl_IsLegalOrder.l1]
    rw [if_pos (show (j : Int) < ((o.take i).length : Int) by omega), if_pos (show (0 : Int) ≤ (j : Int) by omega), if_pos (show (j : Int) < ((o.take i).length : Int) by omega), rd_lt (o.take i) j hj3, List.getElem_take]
    rw [drop_cons (o.take i) j hj3, List.all_cons, List.getElem_take]
    have hb : jB p o[i] o[j] = if o[i] < o[j] then mayE (rd_T35 p o[j]) (rd_T35 p o[i]) else true := rfl
    by_cases hlt : o[i] < o[j]
    · rw [if_pos hlt, if_pos hvj.1, if_pos hvj.2, if_pos hvi.1, if_pos hvi.2, iMay k _ _ (small_rd p hs o[j]) (small_rd p hs o[i]) (by omega)]
      simp only [Option.bind_some]
      rw [hb, if_pos hlt]
      by_cases hm : mayE (rd_T35 p o[j]) (rd_T35 p o[i]) = true
      · rw [if_pos hm, hm, Bool.true_and, wrap_succ j (by omega), ih]
      · rw [if_neg hm, Bool.eq_false_iff.mpr hm, Bool.false_and, Bool.false_and]
    · rw [if_neg hlt, hb, if_neg hlt, Bool.true_and, wrap_succ j (by omega), ih]
theorem spec_order (p : List S35) (hp : p.length ≤ 1048576) (hs : ∀ x ∈ p, SmallQ x) (o : List Int) (ho : o.length = p.length) (d : Nat) : ∀ (i : Nat) (seen : List Bool), i + d = o.length → seen.length = p.length → (∀ v ∈ o.take i, 0 ≤ v ∧ v < (p.length : Int)) → (∀ y : Int, 0 ≤ y → rdOf false seen y = decide (y ∈ o.take i)) → ∀ k, 1048700 + d * 1048700 < k → spec_IsLegalOrder.l0 k p o seen (i : Int) = some (legalB p (o.take i) (o.drop i)) := by
  induction d with
  | zero =>
    intro i seen hi hl hv hy k hk
    obtain ⟨k, rfl⟩ : ∃ m, k = m + 1 := ⟨k - 1, by omega⟩
    simp only [spec_IsLegalOrder.l0]
    rw [if_neg (show ¬ (i : Int) < (o.length : Int) by omega), drop_all o i (by omega)]
    rfl
  | succ d ih =>
    intro i seen hi hl hv hy k hk
    obtain ⟨k, rfl⟩ : ∃ m, k = m + 2 := ⟨k - 2, by omega⟩
    have hlt : i < o.length := by omega
    simp only [spec_IsLegalOrder.l0]
    rw [if_pos (show (i : Int) < (o.length : Int) by omega), if_pos (show (0 : Int) ≤ (i : Int) by omega), rd_lt o i hlt, wrap_id ((p.length : Int) - 1) (by omega), show spec_l01In.f o[i] 0 ((p.length : Int) - 1) = some (inB p.length o[i]) from l01In_eq _ _ _, drop_cons o i hlt]
    simp only [Option.bind_some, legalB]
    by_cases hin : inB p.length o[i] = true
    · have hr : 0 ≤ o[i] ∧ o[i] ≤ (p.length : Int) - 1 := of_decide_eq_true hin
      rw [if_pos hin, hin, if_pos hr.1, if_pos (show o[i] < (seen.length : Int) by omega), hy _ hr.1, Bool.true_and]
      simp only [spec_IsLegalOrder.j1]
      by_cases hm : o[i] ∈ o.take i
      · rw [decide_eq_true hm, if_pos rfl]; rfl
      · rw [decide_eq_false hm, if_neg (by decide), if_pos (show (0 : Int) ≤ (i : Int) by omega), if_pos (show (i : Int) < (o.length : Int) by omega), rd_lt o i hlt, if_pos hr.1, if_pos (show o[i] < (seen.length : Int) by omega)]
        have hv' : ∀ v ∈ o.take (i + 1), 0 ≤ v ∧ v < (p.length : Int) := by
          intro v hv1
          rw [take_snoc o i hlt] at hv1
          rcases List.mem_append.1 hv1 with h | h
          · exact hv v h
          · rw [List.mem_singleton.1 h]; omega
        have h := spec_in p hs o (by omega) (seen.set o[i].toNat true) i hlt hv' (legalB p (o.take (i + 1)) (o.drop (i + 1))) (1048700 + d * 1048700) (by omega) (fun k hk => ih (i + 1) _ (by omega) (by rw [List.length_set]; exact hl) hv' (fun y hy0 => by
          rw [rdOf_set seen o[i] y (by omega) hy0, hy y hy0, take_snoc o i hlt, Bool.eq_iff_iff]
          simp only [Bool.or_eq_true, decide_eq_true_eq, List.mem_append, List.mem_singleton]
          exact Or.comm) k hk) i 0 (by omega) k (by omega)
        have c0 : ((0 : Nat) : Int) = 0 := rfl
        rw [c0] at h
        rw [h, ← take_snoc o i hlt]
        rfl
    · rw [if_neg hin, Bool.eq_false_iff.mpr hin, Bool.false_and]
      simp only [spec_IsLegalOrder.j1]
      rfl
theorem impl_order (p : List S35) (hp : p.length ≤ 1048576) (hs : ∀ x ∈ p, SmallQ x) (o : List Int) (ho : o.length ≤ 1048576) (d : Nat) : ∀ (i : Nat), i + d = o.length → (∀ v ∈ o.take i, 0 ≤ v ∧ v < (p.length : Int)) → ∀ k, 1048700 + d * 1048700 < k → impl_IsLegalOrder.l0 k p o o (o.length : Int) (i : Int) = some (legalB p (o.take i) (o.drop i) && decide (o.length = p.length)) := by
  induction d with
  | zero =>
    intro i hi hv k hk
    obtain ⟨k, rfl⟩ : ∃ m, k = m + 1 := ⟨k - 1, by omega⟩
    simp only [impl_IsLegalOrder.l0]
    rw [if_neg (show ¬ (i : Int) < (o.length : Int) by omega), drop_all o i (by omega)]
    simp only [legalB, Bool.true_and]
    congr 1
    rw [Bool.eq_iff_iff]
    simp only [beq_iff_eq, decide_eq_true_eq]
    omega
  | succ d ih =>
    intro i hi hv k hk
    obtain ⟨k, rfl⟩ : ∃ m, k = m + 2 := ⟨k - 2, by omega⟩
    have hlt : i < o.length := by omega
    simp only [impl_IsLegalOrder.l0]
    rw [if_pos (show (i : Int) < (o.length : Int) by omega), if_pos (show (0 : Int) ≤ (i : Int) by omega), if_pos (show (i : Int) < (o.length : Int) by omega), rd_lt o i hlt, wrap_id ((p.length : Int) - 1) (by omega), show impl_within.f o[i] 0 ((p.length : Int) - 1) = some (inB p.length o[i]) from within_eq _ _ _, drop_cons o i hlt]
    simp only [Option.bind_some, legalB]
    by_cases hin : inB p.length o[i] = true
    · have hr : 0 ≤ o[i] ∧ o[i] ≤ (p.length : Int) - 1 := of_decide_eq_true hin
      rw [if_pos hin, hin, if_pos (show (i : Int) ≤ (o.length : Int) by omega), toNat_nat, has_ev o[i] (o.take i) (by rw [List.length_take]; omega) _ (by rw [List.length_take]; omega), Bool.true_and]
      simp only [Option.bind_some, impl_IsLegalOrder.j1]
      by_cases hm : o[i] ∈ o.take i
      · rw [decide_eq_true hm, if_pos rfl]; rfl
      · rw [decide_eq_false hm, if_neg (by decide), if_pos (show (0 : Int) ≤ (i : Int) by omega), if_pos (show (i : Int) ≤ (o.length : Int) by omega), toNat_nat]
        have hv' : ∀ v ∈ o.take (i + 1), 0 ≤ v ∧ v < (p.length : Int) := by
          intro v hv1
          rw [take_snoc o i hlt] at hv1
          rcases List.mem_append.1 hv1 with h | h
          · exact hv v h
          · rw [List.mem_singleton.1 h]; omega
        have h := impl_in p hs o ho i hlt hv' (legalB p (o.take (i + 1)) (o.drop (i + 1)) && decide (o.length = p.length)) (1048700 + d * 1048700) (by omega) (fun k hk => ih (i + 1) (by omega) hv' k hk) i 0 (by omega) k (by omega)
        have c0 : ((0 : Nat) : Int) = 0 := rfl
        rw [c0] at h
        rw [h, ← take_snoc o i hlt]
        simp only [List.drop_zero, Bool.not_false, Bool.true_and, Bool.and_assoc]
    · rw [if_neg hin, Bool.eq_false_iff.mpr hin, Bool.false_and, Bool.false_and]
      simp only [impl_IsLegalOrder.j1]
      rfl
theorem sOrder_ev (p : List S35) (hp : p.length ≤ 1048576) (hs : ∀ x ∈ p, SmallQ x) (o : List Int) (ho : o.length ≤ 1048576) (k : Nat) (hk : 1099644300000 < k) : spec_IsLegalOrder.f k p o = some (legalB p [] o && decide (o.length = p.length)) := by
  unfold spec_IsLegalOrder.f
  by_cases h : o.length = p.length
  · rw [if_pos (by omega), if_pos (by omega), if_pos (by omega), decide_eq_true h, Bool.and_true, toNat_nat]
    have e := spec_order p hp hs o h o.length 0 (List.replicate p.length false) (by omega) (by simp) (by simp) (fun y hy => by
      show (List.replicate p.length false).getD y.toNat false = _
      rw [List.getD_eq_getElem?_getD, List.getElem?_replicate]
      split <;> simp) k (by omega)
    have c0 : ((0 : Nat) : Int) = 0 := rfl
    rw [c0, List.take_zero, List.drop_zero] at e
    exact e
  · rw [if_neg (by omega), decide_eq_false h, Bool.and_false]
theorem iOrder_ev (p : List S35) (hp : p.length ≤ 1048576) (hs : ∀ x ∈ p, SmallQ x) (o : List Int) (ho : o.length ≤ 1048576) (k : Nat) (hk : 1099644300000 < k) : impl_IsLegalOrder.f k p o = some (legalB p [] o && decide (o.length = p.length)) := by
  unfold impl_IsLegalOrder.f
  have e := impl_order p hp hs o ho o.length 0 (by omega) (by simp) k (by omega)
  have c0 : ((0 : Nat) : Int) = 0 := rfl
  rw [c0, List.take_zero, List.drop_zero] at e
  exact e
theorem FnExactIsLegalOrder : laws_FnExactIsLegalOrder.Pure := by
  intro p o ⟨mp, fp⟩ ⟨mo, _⟩
  obtain ⟨r, e1, _, e2⟩ := szPacketS_ev p 1048576 (by omega) (by omega) mp (fun x hx => (fp x hx).2.2.2.2.2.2.2.1)
  refine ⟨1099644300001, ?_⟩
  unfold laws_FnExactIsLegalOrder.f
  by_cases ho : (o.length : Int) > 1048576
  · rw [if_pos ho]
  rw [if_neg ho, e1 _ (by omega)]
  simp only [Option.bind_some]
  by_cases h0 : r < 0
  · rw [if_pos h0]
  obtain ⟨hp, hsp⟩ := e2 (by omega)
  have hp' : (p.map cvP).length ≤ 1048576 := by rw [List.length_map]; exact hp
  rw [if_neg h0, toPacketS_ev p hp hsp _ (by omega), toIntS_ev o (by omega) _ (by omega)]
  simp only [Option.bind_some]
  rw [sOrder_ev _ hp' (cvP_small p hsp) o (by omega) _ (by omega), iOrder_ev _ hp' (cvP_small p hsp) o (by omega) _ (by omega)]
  simp only [Option.bind_some, bne_self_eq_false, Bool.false_eq_true, if_false]
  rw [eqPacketS_ev _ hp' (cvP_small p hsp) _ (by omega), eqIntS_ev o o (by omega) _ (by omega)]
  simp

end Go.Proofs.Ytkapncihoabnmaa.Pure
