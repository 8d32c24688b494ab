/- The statement FnExactPassersOf over lists: for any queue the program and the reference name the same packets that may go, the program leaves what it is given, and its answer shares no memory with its argument or with the answer of another call. What is larger than the law's own bound is let by, as the law itself does. -/
import Derived.Test.YtbdehpmfemgooaaPFnExactPassersOfx11
import Derived.Test.YtbdehpmfemgooaaVOLists
namespace Go.Proofs.Ytbdehpmfemgooaa.Pure
set_option linter.unusedVariables false
set_option linter.unusedSimpArgs false
open Go.RowKit Go.Proofs.Ytbdehpmfemgooaa.PFnExactPassersOf Go.Proofs.YtbdehpmfemgooaaW.PrintWords Go.Proofs.YtbdehpmfemgooaaW.PrintLast Go.Proofs.YtbdehpmfemgooaaW.PrintMore Go.Proofs.YtbdehpmfemgooaaX

theorem within_eq (a l m : Int) : impl_within.f a l m = some (decide (l ≤ a ∧ a ≤ m)) := by
  unfold impl_within.f
  by_cases h : a ≥ l
  · have h' : l ≤ a := h
    rw [if_pos h]; simp [h']
  · have h' : ¬ l ≤ a := h
    rw [if_neg h]; simp [h']
theorem l01In_eq (a l m : Int) : spec_l01In.f a l m = some (decide (l ≤ a ∧ a ≤ m)) := by
  unfold spec_l01In.f
  by_cases h : a ≥ l
  · have h' : l ≤ a := h
    rw [if_pos h]; simp [h']
  · have h' : ¬ l ≤ a := h
    rw [if_neg h]; simp [h']
theorem any_not {α : Type} (l : List α) (p : α → Bool) : (!l.any fun x => !p x) = l.all p := by
  induction l with
  | nil => rfl
  | cons a l ih => rw [List.any_cons, List.all_cons, Bool.not_or, ih, Bool.not_not]
theorem szIntS_eq (l : List Int) (left : Int) (h0 : 0 ≤ left) (h1 : left ≤ 1048576) (hl : l.length ≤ 9223372036854775807) : laws_szIntS.f l left = some (if left < l.length then -1 else left - l.length) := by
  unfold laws_szIntS.f
  rw [wrap_id _ (by omega)]
  by_cases h : left < l.length
  · rw [if_pos (by omega), if_pos h]
  · rw [if_neg (by omega), if_neg h]
theorem toIntS_l0 (l : List Int) (hb : l.length ≤ 1048576) (d : Nat) : ∀ (x : List Int) (i : Nat), x.length = l.length → x.take i = l.take i → i + d = l.length → ∀ k, d < k → laws_toIntS.l0 k l x (i : Int) = some l := by
  induction d with
  | zero =>
    intro x i hx ht hi k hk
    obtain ⟨k, rfl⟩ : ∃ m, k = m + 1 := ⟨k - 1, by omega⟩
    simp only [laws_toIntS.l0]
    rw [if_neg (show ¬ (i : Int) < (l.length : Int) by omega), fill_end x l i hx (by omega) ht]
  | succ d ih =>
    intro x i hx ht hi k hk
    obtain ⟨k, rfl⟩ : ∃ m, k = m + 1 := ⟨k - 1, by omega⟩
    simp only [laws_toIntS.l0]
    rw [if_pos (show (i : Int) < (l.length : Int) by omega), if_pos (show (0 : Int) ≤ (i : Int) by omega), if_pos (show (i : Int) < (x.length : Int) by omega), wrap_succ i (by omega), toNat_nat, rd_lt l i (by omega)]
    exact ih _ (i + 1) (by simp [hx]) (fill_step x l i _ (by omega) (by omega) ht rfl) (by omega) k (by omega)
theorem toIntS_ev (l : List Int) (hb : l.length ≤ 1048576) : ∀ k, l.length < k → laws_toIntS.f k l = some l := by
  intro k hk
  unfold laws_toIntS.f
  rw [if_pos (by omega), if_pos (by omega)]
  exact toIntS_l0 l hb l.length _ 0 (by simp) (by simp) (by omega) k hk
theorem eqIntS_l0 (a b : List Int) (hl : a.length = b.length) (hb : a.length < 9223372036854775807) (d : Nat) : ∀ (i : Nat), i + d = a.length → ∀ k, d < k → laws_eqIntS.l0 k a b (i : Int) = some (decide (a.drop i = b.drop i)) := by
  induction d with
  | zero =>
    intro i hi k hk
    obtain ⟨k, rfl⟩ : ∃ m, k = m + 1 := ⟨k - 1, by omega⟩
    simp only [laws_eqIntS.l0]
    rw [if_neg (show ¬ (i : Int) < (a.length : Int) by omega), drop_all a i (by omega), drop_all b i (by omega)]
    simp
  | succ d ih =>
    intro i hi k hk
    obtain ⟨k, rfl⟩ : ∃ m, k = m + 1 := ⟨k - 1, by omega⟩
    simp only [laws_eqIntS.l0]
    rw [if_pos (show (i : Int) < (a.length : Int) by omega), if_pos (show (0 : Int) ≤ (i : Int) by omega), if_pos (show (i : Int) < (b.length : Int) by omega)]
    by_cases he : rd a (i : Int) = rd b (i : Int)
    · rw [if_pos he, wrap_succ i (by omega), ih (i + 1) (by omega) k (by omega)]
      congr 1
      rw [decide_eq_decide, drop_eq_iff a b i (by omega) (by omega)]
      exact ⟨fun h => ⟨he, h⟩, fun h => h.2⟩
    · rw [if_neg he]
      congr 1
      symm
      rw [decide_eq_false_iff_not, drop_eq_iff a b i (by omega) (by omega)]
      exact fun h => he h.1
theorem eqIntS_ev (a b : List Int) (hb : a.length < 9223372036854775807) : ∀ k, a.length < k → laws_eqIntS.f k a b = some (decide (a = b)) := by
  intro k hk
  unfold laws_eqIntS.f
  by_cases hl : a.length = b.length
  · rw [if_pos (by omega)]
    exact eqIntS_l0 a b hl hb a.length 0 (by omega) k hk
  · rw [if_neg (by omega), decide_eq_false (fun h => hl (by rw [h]))]
def wordB (x : Int) : Bool := decide (0 ≤ x ∧ x ≤ 65535)
/-- A valid packet, kind by kind: its words are words (W), and it has m of them. -/
def pkQ (K f t a n g s : Int) (W : Bool) (m : Int) : Prop := (0 ≤ f ∧ f ≤ 255) ∧ W = true ∧
  ((K = 1 ∧ 1 ≤ m ∧ m ≤ 8 ∧ 0 ≤ a ∧ a ≤ 65536 - m ∧ s = 0 ∧ t = 0 ∧ n = 0 ∧ g = 0) ∨
   (K = 2 ∧ 1 ≤ m ∧ m ≤ 8 ∧ a = 0 ∧ s = 0 ∧ t = 0 ∧ n = 0 ∧ g = 0) ∨
   (K = 3 ∧ m = 0 ∧ 1 ≤ n ∧ n ≤ 64 ∧ 0 ≤ a ∧ a ≤ 65536 - n ∧ 0 ≤ g ∧ g ≤ 7 ∧ s = 0 ∧ t = 0) ∨
   (K = 4 ∧ m = 0 ∧ 0 ≤ a ∧ a ≤ 63 ∧ 0 ≤ t ∧ t ≤ 255 ∧ 0 ≤ g ∧ g ≤ 7 ∧ s = 0 ∧ n = 0) ∨
   (K = 5 ∧ m = 1 ∧ 0 ≤ a ∧ a ≤ 63 ∧ 0 ≤ t ∧ t ≤ 255 ∧ 0 ≤ g ∧ g ≤ 7 ∧ s = 0 ∧ n = 0) ∨
   (K = 6 ∧ a = 0 ∧ 0 ≤ t ∧ t ≤ 255 ∧ 0 ≤ g ∧ g ≤ 7 ∧ 0 ≤ s ∧ s ≤ 2 ∧ 0 ≤ n ∧ n ≤ 64 ∧ (m = 0 ∨ s = 0 ∧ m ≤ 8 ∧ m ≤ n)))
instance (K f t a n g s : Int) (W : Bool) (m : Int) : Decidable (pkQ K f t a n g s W m) := by unfold pkQ; infer_instance
def pkB (K f t a n g s : Int) (l : List Int) : Bool := decide (pkQ K f t a n g s (l.all wordB) (l.length : Int))
/-- Whether the data fit to the kind, as the program asks it. -/
def dataQ (K n s : Int) (m : Int) : Prop := (K = 1 ∨ K = 2) ∧ 1 ≤ m ∧ m ≤ 8 ∨ K = 5 ∧ m = 1 ∨ K = 6 ∧ s = 0 ∧ m ≤ 8 ∧ m ≤ n ∨ (K ≠ 1 ∧ K ≠ 2 ∧ K ≠ 5 ∧ ¬ (K = 6 ∧ s = 0)) ∧ m = 0
instance (K n s m : Int) : Decidable (dataQ K n s m) := by unfold dataQ; infer_instance
theorem sWords_l0 (l : List (Int)) (hl : l.length ≤ 1048576) (d : Nat) : ∀ i : Nat, i + d = l.length → ∀ k, 0 + d < k → spec_l04Words.l0 k l (i : Int) = some ((l.drop i).all wordB && true) := by
  induction d with
  | zero =>
    intro i hi k hk
    obtain ⟨k, rfl⟩ : ∃ m, k = m + 1 := ⟨k - 1, by omega⟩
    simp only [spec_l04Words.l0]
    rw [if_neg (show ¬ (i : Int) < (l.length : Int) by omega), drop_all l i (by omega)]
    simp
  | succ d ih =>
    intro i hi k hk
    obtain ⟨k, rfl⟩ : ∃ m, k = m + 1 := ⟨k - 1, by omega⟩
    have hlt : i < l.length := by omega
    simp only [spec_l04Words.l0]
    rw [if_pos (show (i : Int) < (l.length : Int) by omega), if_pos (show (0 : Int) ≤ (i : Int) by omega), rd_lt l i hlt, show spec_l01In.f l[i] 0 65535 = some (wordB l[i]) from l01In_eq _ _ _]
    simp only [Option.bind_some]
    by_cases hp : wordB l[i] = true
    · rw [if_pos hp, wrap_succ i (by omega), ih (i + 1) (by omega) k (by omega), drop_cons l i hlt, List.all_cons, hp, Bool.true_and]
    · rw [if_neg hp, drop_cons l i hlt, List.all_cons, Bool.eq_false_iff.mpr hp, Bool.false_and, Bool.false_and]
theorem sWords_ev (l : List Int) (hl : l.length ≤ 1048576) (k : Nat) (hk : l.length < k) : spec_l04Words.f k l = some (l.all wordB) := by
  have h := sWords_l0 l hl l.length 0 (by omega) k (by omega)
  rw [Bool.and_true] at h
  exact h
theorem notWord_eq (x : Int) : impl_Packet_dataOk_1.f x = some (!wordB x) := by
  unfold impl_Packet_dataOk_1.f impl_isWord.f
  rw [within_eq]
  rfl
theorem cWords_l0 (l : List (Int)) (hl : l.length ≤ 1048576) (d : Nat) : ∀ i : Nat, i + d = l.length → ∀ k, 0 + d < k → ∃ r, slices_IndexFunc_int_int__impl_Packet__dataOk_1.l0 k l (l.length : Int) (i : Int) = some r ∧ decide (r ≥ 0) = (l.drop i).any (fun x => !wordB x) := by
  induction d with
  | zero =>
    intro i hi k hk
    obtain ⟨k, rfl⟩ : ∃ m, k = m + 1 := ⟨k - 1, by omega⟩
    refine ⟨-1, ?_, ?_⟩
    · simp only [slices_IndexFunc_int_int__impl_Packet__dataOk_1.l0]
      rw [if_neg (show ¬ (i : Int) < (l.length : Int) by omega)]
    · rw [drop_all l i (by omega)]; rfl
  | succ d ih =>
    intro i hi k hk
    obtain ⟨k, rfl⟩ : ∃ m, k = m + 1 := ⟨k - 1, by omega⟩
    have hlt : i < l.length := by omega
    simp only [slices_IndexFunc_int_int__impl_Packet__dataOk_1.l0]
    rw [if_pos (show (i : Int) < (l.length : Int) by omega), if_pos (show (0 : Int) ≤ (i : Int) by omega), if_pos (show (i : Int) < (l.length : Int) by omega), rd_lt l i hlt, notWord_eq l[i]]
    simp only [Option.bind_some]
    by_cases hp : (fun x => !wordB x) l[i] = true
    · rw [if_pos hp]
      exact ⟨_, rfl, by rw [any_drop_yes l i hlt _ hp, decide_eq_true (by omega)]⟩
    · rw [if_neg hp, wrap_succ i (by omega)]
      obtain ⟨r, h1, h2⟩ := ih (i + 1) (by omega) k (by omega)
      exact ⟨r, h1, by rw [h2, any_drop_no l i hlt _ hp]⟩
theorem cWords_ev (l : List (Int)) (hl : l.length ≤ 1048576) (k : Nat) (hk : 0 + l.length < k) : slices_ContainsFunc_int_int__impl_Packet__dataOk_1.f k l = some (l.any (fun x => !wordB x)) := by
  obtain ⟨r, h1, h2⟩ := cWords_l0 l hl l.length 0 (by omega) k hk
  unfold slices_ContainsFunc_int_int__impl_Packet__dataOk_1.f slices_IndexFunc_int_int__impl_Packet__dataOk_1.f
  have c0 : ((0 : Nat) : Int) = 0 := rfl
  rw [c0] at h1
  rw [h1]
  simp only [Option.bind_some]
  rw [h2]; rfl
set_option maxHeartbeats 2000000 in
theorem sIsPacket_ev (K f t a n g s : Int) (l : List Int) (hl : l.length ≤ 1048576) (k : Nat) (hk : 1048580 < k) : spec_IsPacket.f k K f t a n g s l = some (pkB K f t a n g s l) := by
  obtain ⟨k, rfl⟩ : ∃ m, k = m + 1 := ⟨k - 1, by omega⟩
  unfold spec_IsPacket.f spec_IsId.f pkB
  rw [l01In_eq, sWords_ev l hl _ (by omega)]
  simp only [Option.bind_some, spec_IsPacket.j0, l01In_eq, spec_IsId.f, spec_l04Zero.f, Bool.false_eq_true, if_false, if_true, decide_eq_true_eq, Bool.not_eq_true']
  have hm : (0 : Int) ≤ (l.length : Int) ∧ (l.length : Int) ≤ 1048576 := by omega
  generalize (l.length : Int) = m at hm ⊢
  generalize l.all wordB = W
  by_cases hf : 0 ≤ f ∧ f ≤ 255
  case neg => rw [if_neg hf]; congr 1; symm; rw [decide_eq_false_iff_not]; unfold pkQ; exact fun h => hf h.1
  rw [if_pos hf]
  cases W
  case false => rw [if_pos rfl]; congr 1; symm; rw [decide_eq_false_iff_not]; unfold pkQ; simp
  rw [if_neg (by decide)]
  have w1 : wrap64 (65536 - m) = 65536 - m := wrap_id _ (by omega)
  rw [w1]
  by_cases k1 : K = 1
  · subst k1
    simp only [Int.reduceEq, if_true, if_false, Option.bind_some]
    all_goals repeat' (first | split | (simp only [Option.bind_some]; split))
    all_goals ((try simp only [Option.bind_some]); congr 1; rw [Bool.eq_iff_iff]; (try simp only [beq_iff_eq, decide_eq_true_eq, Bool.and_eq_true, Bool.false_eq_true]); unfold pkQ; (try unfold dataQ); (try simp only [eq_self, Bool.false_eq_true, true_and, false_and, and_false, false_iff, true_iff, iff_false, iff_true, not_false_eq_true, not_true_eq_false]); first | done | omega | ((try simp only [le_mn]); omega) | ((try simp only [wrap64, beq_eq_false_iff_ne, bne_iff_ne, beq_iff_eq, ne_eq, decide_eq_false_iff_not, Decidable.not_not, true_or, or_true, true_and, not_true_eq_false, not_false_eq_true, false_and, and_false, and_true, or_false, false_or, iff_false, iff_true, false_iff, true_iff, Int.reduceEq] at *); (try simp only [le_mn]); first | done | omega))
  by_cases k2 : K = 2
  · subst k2
    simp only [Int.reduceEq, if_true, if_false, Option.bind_some]
    all_goals repeat' (first | split | (simp only [Option.bind_some]; split))
    all_goals ((try simp only [Option.bind_some]); congr 1; rw [Bool.eq_iff_iff]; (try simp only [beq_iff_eq, decide_eq_true_eq, Bool.and_eq_true, Bool.false_eq_true]); unfold pkQ; (try unfold dataQ); (try simp only [eq_self, Bool.false_eq_true, true_and, false_and, and_false, false_iff, true_iff, iff_false, iff_true, not_false_eq_true, not_true_eq_false]); first | done | omega | ((try simp only [le_mn]); omega) | ((try simp only [wrap64, beq_eq_false_iff_ne, bne_iff_ne, beq_iff_eq, ne_eq, decide_eq_false_iff_not, Decidable.not_not, true_or, or_true, true_and, not_true_eq_false, not_false_eq_true, false_and, and_false, and_true, or_false, false_or, iff_false, iff_true, false_iff, true_iff, Int.reduceEq] at *); (try simp only [le_mn]); first | done | omega))
  by_cases k3 : K = 3
  · subst k3
    simp only [Int.reduceEq, if_true, if_false, Option.bind_some]
    by_cases hn : 1 ≤ n ∧ n ≤ 64
    · rw [wrap_id (65536 - n) (by omega)]
      repeat' (first | split | (simp only [Option.bind_some]; split))
      all_goals ((try simp only [Option.bind_some]); congr 1; rw [Bool.eq_iff_iff]; (try simp only [beq_iff_eq, decide_eq_true_eq, Bool.and_eq_true, Bool.false_eq_true]); unfold pkQ; (try unfold dataQ); (try simp only [eq_self, Bool.false_eq_true, true_and, false_and, and_false, false_iff, true_iff, iff_false, iff_true, not_false_eq_true, not_true_eq_false]); first | done | omega | ((try simp only [le_mn]); omega) | ((try simp only [wrap64, beq_eq_false_iff_ne, bne_iff_ne, beq_iff_eq, ne_eq, decide_eq_false_iff_not, Decidable.not_not, true_or, or_true, true_and, not_true_eq_false, not_false_eq_true, false_and, and_false, and_true, or_false, false_or, iff_false, iff_true, false_iff, true_iff, Int.reduceEq] at *); (try simp only [le_mn]); first | done | omega))
    simp only [hn, if_false]
    all_goals repeat' (first | split | (simp only [Option.bind_some]; split))
    all_goals ((try simp only [Option.bind_some]); congr 1; rw [Bool.eq_iff_iff]; (try simp only [beq_iff_eq, decide_eq_true_eq, Bool.and_eq_true, Bool.false_eq_true]); unfold pkQ; (try unfold dataQ); (try simp only [eq_self, Bool.false_eq_true, true_and, false_and, and_false, false_iff, true_iff, iff_false, iff_true, not_false_eq_true, not_true_eq_false]); first | done | omega | ((try simp only [le_mn]); omega) | ((try simp only [wrap64, beq_eq_false_iff_ne, bne_iff_ne, beq_iff_eq, ne_eq, decide_eq_false_iff_not, Decidable.not_not, true_or, or_true, true_and, not_true_eq_false, not_false_eq_true, false_and, and_false, and_true, or_false, false_or, iff_false, iff_true, false_iff, true_iff, Int.reduceEq] at *); (try simp only [le_mn]); first | done | omega))
  by_cases k4 : K = 4
  · subst k4
    simp only [Int.reduceEq, if_true, if_false, Option.bind_some]
    all_goals repeat' (first | split | (simp only [Option.bind_some]; split))
    all_goals ((try simp only [Option.bind_some]); congr 1; rw [Bool.eq_iff_iff]; (try simp only [beq_iff_eq, decide_eq_true_eq, Bool.and_eq_true, Bool.false_eq_true]); unfold pkQ; (try unfold dataQ); (try simp only [eq_self, Bool.false_eq_true, true_and, false_and, and_false, false_iff, true_iff, iff_false, iff_true, not_false_eq_true, not_true_eq_false]); first | done | omega | ((try simp only [le_mn]); omega) | ((try simp only [wrap64, beq_eq_false_iff_ne, bne_iff_ne, beq_iff_eq, ne_eq, decide_eq_false_iff_not, Decidable.not_not, true_or, or_true, true_and, not_true_eq_false, not_false_eq_true, false_and, and_false, and_true, or_false, false_or, iff_false, iff_true, false_iff, true_iff, Int.reduceEq] at *); (try simp only [le_mn]); first | done | omega))
  by_cases k5 : K = 5
  · subst k5
    simp only [Int.reduceEq, if_true, if_false, Option.bind_some]
    all_goals repeat' (first | split | (simp only [Option.bind_some]; split))
    all_goals ((try simp only [Option.bind_some]); congr 1; rw [Bool.eq_iff_iff]; (try simp only [beq_iff_eq, decide_eq_true_eq, Bool.and_eq_true, Bool.false_eq_true]); unfold pkQ; (try unfold dataQ); (try simp only [eq_self, Bool.false_eq_true, true_and, false_and, and_false, false_iff, true_iff, iff_false, iff_true, not_false_eq_true, not_true_eq_false]); first | done | omega | ((try simp only [le_mn]); omega) | ((try simp only [wrap64, beq_eq_false_iff_ne, bne_iff_ne, beq_iff_eq, ne_eq, decide_eq_false_iff_not, Decidable.not_not, true_or, or_true, true_and, not_true_eq_false, not_false_eq_true, false_and, and_false, and_true, or_false, false_or, iff_false, iff_true, false_iff, true_iff, Int.reduceEq] at *); (try simp only [le_mn]); first | done | omega))
  by_cases k6 : K = 6
  · subst k6
    simp only [Int.reduceEq, if_true, if_false, Option.bind_some]
    all_goals repeat' (first | split | (simp only [Option.bind_some]; split))
    all_goals ((try simp only [Option.bind_some]); congr 1; rw [Bool.eq_iff_iff]; (try simp only [beq_iff_eq, decide_eq_true_eq, Bool.and_eq_true, Bool.false_eq_true]); unfold pkQ; (try unfold dataQ); (try simp only [eq_self, Bool.false_eq_true, true_and, false_and, and_false, false_iff, true_iff, iff_false, iff_true, not_false_eq_true, not_true_eq_false]); first | done | omega | ((try simp only [le_mn]); omega) | ((try simp only [wrap64, beq_eq_false_iff_ne, bne_iff_ne, beq_iff_eq, ne_eq, decide_eq_false_iff_not, Decidable.not_not, true_or, or_true, true_and, not_true_eq_false, not_false_eq_true, false_and, and_false, and_true, or_false, false_or, iff_false, iff_true, false_iff, true_iff, Int.reduceEq] at *); (try simp only [le_mn]); first | done | omega))
  rw [if_neg k1, if_neg k2, if_neg k3, if_neg k4, if_neg k5, if_neg k6]
  ((try simp only [Option.bind_some]); congr 1; rw [Bool.eq_iff_iff]; (try simp only [beq_iff_eq, decide_eq_true_eq, Bool.and_eq_true, Bool.false_eq_true]); unfold pkQ; (try unfold dataQ); (try simp only [eq_self, Bool.false_eq_true, true_and, false_and, and_false, false_iff, true_iff, iff_false, iff_true, not_false_eq_true, not_true_eq_false]); first | done | omega | ((try simp only [le_mn]); omega) | ((try simp only [wrap64, beq_eq_false_iff_ne, bne_iff_ne, beq_iff_eq, ne_eq, decide_eq_false_iff_not, Decidable.not_not, true_or, or_true, true_and, not_true_eq_false, not_false_eq_true, false_and, and_false, and_true, or_false, false_or, iff_false, iff_true, false_iff, true_iff, Int.reduceEq] at *); (try simp only [le_mn]); first | done | omega))
theorem iDataOk_ev (K f t a n g s : Int) (l : List Int) (hl : l.length ≤ 1048576) (k : Nat) (hk : 1048580 < k) : impl_Packet_dataOk.f k K f t a n g s l = some (l.all wordB && decide (dataQ K n s (l.length : Int))) := by
  obtain ⟨k, rfl⟩ : ∃ m, k = m + 1 := ⟨k - 1, by omega⟩
  unfold impl_Packet_dataOk.f
  rw [cWords_ev l hl _ (by omega)]
  simp only [Option.bind_some, impl_Packet_dataOk.j0, within_eq, if_true]
  rw [← any_not l wordB]
  generalize (l.any fun x => !wordB x) = W
  generalize (l.length : Int) = m
  cases W
  all_goals simp only [Bool.false_eq_true, if_false, if_true, Bool.not_false, Bool.not_true, Bool.true_and, Bool.false_and, beq_iff_eq]
  all_goals repeat' split
  all_goals first | rfl | (congr 1; rw [Bool.eq_iff_iff]; simp only [beq_iff_eq, decide_eq_true_eq, Bool.false_eq_true, false_iff, true_iff]; unfold dataQ; omega)
set_option maxHeartbeats 2000000 in
theorem iIsPacket_ev (K f t a n g s : Int) (l : List Int) (hl : l.length ≤ 1048576) (k : Nat) (hk : 1048590 < k) : impl_IsPacket.f k K f t a n g s l = some (pkB K f t a n g s l) := by
  obtain ⟨k, rfl⟩ : ∃ m, k = m + 3 := ⟨k - 3, by omega⟩
  unfold impl_IsPacket.f impl_IsId.f impl_Packet_addressOk.f impl_Packet_lengthOk.f pkB
  simp only [Option.bind_some, within_eq, impl_IsPacket.j0, impl_IsPacket.j1, impl_IsPacket.j2, impl_Packet_addressOk.j0, impl_Packet_words.f, impl_IsId.f, iDataOk_ev K f t a n g s l hl _ (show 1048580 < k by omega), decide_eq_true_eq, Bool.not_eq_true', Bool.false_eq_true, if_false, if_true]
  have hm : (0 : Int) ≤ (l.length : Int) ∧ (l.length : Int) ≤ 1048576 := by omega
  generalize (l.length : Int) = m at hm ⊢
  generalize l.all wordB = W
  by_cases hf : 0 ≤ f ∧ f ≤ 255
  case neg =>
    simp only [hf, if_false, if_true, Bool.true_eq_false]
    have e : decide (pkQ K f t a n g s W m) = false := by rw [decide_eq_false_iff_not]; unfold pkQ; exact fun h => hf h.1
    rw [e]
    repeat' split
    all_goals rfl
  by_cases k1 : K = 1
  · subst k1
    simp only [Int.reduceEq, Int.reduceLE, Int.reduceBEq, hf, if_true, if_false, Option.bind_some, and_true, true_and, and_false, false_and, Bool.true_eq_false, Bool.false_eq_true]
    cases W
    all_goals repeat' (first | (simp only [Option.bind_some, decide_eq_true_eq, Bool.false_eq_true, if_false, if_true, Bool.false_and, Bool.true_and]) | split)
    all_goals ((try simp only [Option.bind_some]); congr 1; rw [Bool.eq_iff_iff]; (try simp only [beq_iff_eq, decide_eq_true_eq, Bool.and_eq_true, Bool.false_eq_true]); unfold pkQ; (try unfold dataQ); (try simp only [eq_self, Bool.false_eq_true, true_and, false_and, and_false, false_iff, true_iff, iff_false, iff_true, not_false_eq_true, not_true_eq_false]); first | done | omega | ((try simp only [le_mn]); omega) | ((try simp only [wrap64, beq_eq_false_iff_ne, bne_iff_ne, beq_iff_eq, ne_eq, decide_eq_false_iff_not, Decidable.not_not, true_or, or_true, true_and, not_true_eq_false, not_false_eq_true, false_and, and_false, and_true, or_false, false_or, iff_false, iff_true, false_iff, true_iff, Int.reduceEq] at *); (try simp only [le_mn]); first | done | omega))
  by_cases k2 : K = 2
  · subst k2
    simp only [Int.reduceEq, Int.reduceLE, Int.reduceBEq, hf, if_true, if_false, Option.bind_some, and_true, true_and, and_false, false_and, Bool.true_eq_false, Bool.false_eq_true]
    cases W
    all_goals repeat' (first | (simp only [Option.bind_some, decide_eq_true_eq, Bool.false_eq_true, if_false, if_true, Bool.false_and, Bool.true_and]) | split)
    all_goals ((try simp only [Option.bind_some]); congr 1; rw [Bool.eq_iff_iff]; (try simp only [beq_iff_eq, decide_eq_true_eq, Bool.and_eq_true, Bool.false_eq_true]); unfold pkQ; (try unfold dataQ); (try simp only [eq_self, Bool.false_eq_true, true_and, false_and, and_false, false_iff, true_iff, iff_false, iff_true, not_false_eq_true, not_true_eq_false]); first | done | omega | ((try simp only [le_mn]); omega) | ((try simp only [wrap64, beq_eq_false_iff_ne, bne_iff_ne, beq_iff_eq, ne_eq, decide_eq_false_iff_not, Decidable.not_not, true_or, or_true, true_and, not_true_eq_false, not_false_eq_true, false_and, and_false, and_true, or_false, false_or, iff_false, iff_true, false_iff, true_iff, Int.reduceEq] at *); (try simp only [le_mn]); first | done | omega))
  by_cases k3 : K = 3
  · subst k3
    simp only [Int.reduceEq, Int.reduceLE, Int.reduceBEq, hf, if_true, if_false, Option.bind_some, and_true, true_and, and_false, false_and, Bool.true_eq_false, Bool.false_eq_true]
    cases W
    all_goals repeat' (first | (simp only [Option.bind_some, decide_eq_true_eq, Bool.false_eq_true, if_false, if_true, Bool.false_and, Bool.true_and]) | split)
    all_goals ((try simp only [Option.bind_some]); congr 1; rw [Bool.eq_iff_iff]; (try simp only [beq_iff_eq, decide_eq_true_eq, Bool.and_eq_true, Bool.false_eq_true]); unfold pkQ; (try unfold dataQ); (try simp only [eq_self, Bool.false_eq_true, true_and, false_and, and_false, false_iff, true_iff, iff_false, iff_true, not_false_eq_true, not_true_eq_false]); first | done | omega | ((try simp only [le_mn]); omega) | ((try simp only [wrap64, beq_eq_false_iff_ne, bne_iff_ne, beq_iff_eq, ne_eq, decide_eq_false_iff_not, Decidable.not_not, true_or, or_true, true_and, not_true_eq_false, not_false_eq_true, false_and, and_false, and_true, or_false, false_or, iff_false, iff_true, false_iff, true_iff, Int.reduceEq] at *); (try simp only [le_mn]); first | done | omega))
  by_cases k4 : K = 4
  · subst k4
    simp only [Int.reduceEq, Int.reduceLE, Int.reduceBEq, hf, if_true, if_false, Option.bind_some, and_true, true_and, and_false, false_and, Bool.true_eq_false, Bool.false_eq_true]
    cases W
    all_goals repeat' (first | (simp only [Option.bind_some, decide_eq_true_eq, Bool.false_eq_true, if_false, if_true, Bool.false_and, Bool.true_and]) | split)
    all_goals ((try simp only [Option.bind_some]); congr 1; rw [Bool.eq_iff_iff]; (try simp only [beq_iff_eq, decide_eq_true_eq, Bool.and_eq_true, Bool.false_eq_true]); unfold pkQ; (try unfold dataQ); (try simp only [eq_self, Bool.false_eq_true, true_and, false_and, and_false, false_iff, true_iff, iff_false, iff_true, not_false_eq_true, not_true_eq_false]); first | done | omega | ((try simp only [le_mn]); omega) | ((try simp only [wrap64, beq_eq_false_iff_ne, bne_iff_ne, beq_iff_eq, ne_eq, decide_eq_false_iff_not, Decidable.not_not, true_or, or_true, true_and, not_true_eq_false, not_false_eq_true, false_and, and_false, and_true, or_false, false_or, iff_false, iff_true, false_iff, true_iff, Int.reduceEq] at *); (try simp only [le_mn]); first | done | omega))
  by_cases k5 : K = 5
  · subst k5
    simp only [Int.reduceEq, Int.reduceLE, Int.reduceBEq, hf, if_true, if_false, Option.bind_some, and_true, true_and, and_false, false_and, Bool.true_eq_false, Bool.false_eq_true]
    cases W
    all_goals repeat' (first | (simp only [Option.bind_some, decide_eq_true_eq, Bool.false_eq_true, if_false, if_true, Bool.false_and, Bool.true_and]) | split)
    all_goals ((try simp only [Option.bind_some]); congr 1; rw [Bool.eq_iff_iff]; (try simp only [beq_iff_eq, decide_eq_true_eq, Bool.and_eq_true, Bool.false_eq_true]); unfold pkQ; (try unfold dataQ); (try simp only [eq_self, Bool.false_eq_true, true_and, false_and, and_false, false_iff, true_iff, iff_false, iff_true, not_false_eq_true, not_true_eq_false]); first | done | omega | ((try simp only [le_mn]); omega) | ((try simp only [wrap64, beq_eq_false_iff_ne, bne_iff_ne, beq_iff_eq, ne_eq, decide_eq_false_iff_not, Decidable.not_not, true_or, or_true, true_and, not_true_eq_false, not_false_eq_true, false_and, and_false, and_true, or_false, false_or, iff_false, iff_true, false_iff, true_iff, Int.reduceEq] at *); (try simp only [le_mn]); first | done | omega))
  by_cases k6 : K = 6
  · subst k6
    simp only [Int.reduceEq, Int.reduceLE, Int.reduceBEq, hf, if_true, if_false, Option.bind_some, and_true, true_and, and_false, false_and, Bool.true_eq_false, Bool.false_eq_true]
    cases W
    all_goals repeat' (first | (simp only [Option.bind_some, decide_eq_true_eq, Bool.false_eq_true, if_false, if_true, Bool.false_and, Bool.true_and]) | split)
    all_goals ((try simp only [Option.bind_some]); congr 1; rw [Bool.eq_iff_iff]; (try simp only [beq_iff_eq, decide_eq_true_eq, Bool.and_eq_true, Bool.false_eq_true]); unfold pkQ; (try unfold dataQ); (try simp only [eq_self, Bool.false_eq_true, true_and, false_and, and_false, false_iff, true_iff, iff_false, iff_true, not_false_eq_true, not_true_eq_false]); first | done | omega | ((try simp only [le_mn]); omega) | ((try simp only [wrap64, beq_eq_false_iff_ne, bne_iff_ne, beq_iff_eq, ne_eq, decide_eq_false_iff_not, Decidable.not_not, true_or, or_true, true_and, not_true_eq_false, not_false_eq_true, false_and, and_false, and_true, or_false, false_or, iff_false, iff_true, false_iff, true_iff, Int.reduceEq] at *); (try simp only [le_mn]); first | done | omega))
  simp only [show ¬ (1 ≤ K ∧ K ≤ 6) by omega, if_false, if_true]
  ((try simp only [Option.bind_some]); congr 1; rw [Bool.eq_iff_iff]; (try simp only [beq_iff_eq, decide_eq_true_eq, Bool.and_eq_true, Bool.false_eq_true]); unfold pkQ; (try unfold dataQ); (try simp only [eq_self, Bool.false_eq_true, true_and, false_and, and_false, false_iff, true_iff, iff_false, iff_true, not_false_eq_true, not_true_eq_false]); first | done | omega | ((try simp only [le_mn]); omega) | ((try simp only [wrap64, beq_eq_false_iff_ne, bne_iff_ne, beq_iff_eq, ne_eq, decide_eq_false_iff_not, Decidable.not_not, true_or, or_true, true_and, not_true_eq_false, not_false_eq_true, false_and, and_false, and_true, or_false, false_or, iff_false, iff_true, false_iff, true_iff, Int.reduceEq] at *); (try simp only [le_mn]); first | done | omega))
theorem toPacket_ev (K f t a n g s : Int) (l : List Int) (hl : l.length ≤ 1048576) (k : Nat) (hk : 1048577 < k) : laws_toPacket.f k K f t a n g s l = some (K, f, t, a, n, g, s, l) := by
  unfold laws_toPacket.f
  rw [toIntS_ev l hl k (by omega)]
  rfl
theorem eqPacket_ev (K f t a n g s : Int) (l : List Int) (hl : l.length ≤ 1048576) (k : Nat) (hk : 1048577 < k) : laws_eqPacket.f k K f t a n g s l K f t a n g s l = some true := by
  unfold laws_eqPacket.f
  rw [if_pos rfl, if_pos rfl, if_pos rfl, if_pos rfl, if_pos rfl, if_pos rfl, if_pos rfl, eqIntS_ev l l (by omega) k (by omega)]
  simp
theorem szPacket_eq (K f t a n g s : Int) (l : List Int) (left : Int) (h0 : 0 ≤ left) (h1 : left ≤ 1048576) (hl : l.length ≤ 9223372036854775807) : ∃ r, laws_szPacket.f K f t a n g s l left = some r ∧ r ≤ left ∧ (0 ≤ r → r = left - l.length) := by
  unfold laws_szPacket.f
  rw [szIntS_eq l left h0 h1 hl]
  simp only [Option.bind_some]
  by_cases hx : left < l.length
  · rw [if_pos hx, if_pos (by omega)]
    exact ⟨_, rfl, by omega, fun h => by omega⟩
  · rw [if_neg hx, if_neg (by omega)]
    exact ⟨_, rfl, by omega, fun h => rfl⟩
/-- The class of a packet: -1 where it is none. -/
def clI (K f t a n g s : Int) (l : List Int) : Int := if pkB K f t a n g s l = true then (if K = 1 then 0 else if K = 2 then 0 else if K = 6 then 2 else 1) else -1
theorem sClassOf_ev (K f t a n g s : Int) (l : List Int) (hl : l.length ≤ 1048576) (k : Nat) (hk : 1048590 < k) : spec_ClassOf.f k K f t a n g s l = some (clI K f t a n g s l) := by
  unfold spec_ClassOf.f clI
  rw [sIsPacket_ev K f t a n g s l hl k (by omega)]
  obtain ⟨k, rfl⟩ : ∃ m, k = m + 1 := ⟨k - 1, by omega⟩
  simp only [Option.bind_some, spec_ClassOf.j0, beq_iff_eq]
  cases pkB K f t a n g s l
  all_goals repeat' split
  all_goals first | rfl | (exfalso; omega) | simp_all
theorem iClassOf_ev (K f t a n g s : Int) (l : List Int) (hl : l.length ≤ 1048576) (k : Nat) (hk : 1048590 < k) : impl_ClassOf.f k K f t a n g s l = some (clI K f t a n g s l) := by
  unfold impl_ClassOf.f impl_classOf.f clI
  rw [iIsPacket_ev K f t a n g s l hl k (by omega)]
  obtain ⟨k, rfl⟩ : ∃ m, k = m + 1 := ⟨k - 1, by omega⟩
  simp only [Option.bind_some, impl_classOf.j0, beq_iff_eq]
  cases pkB K f t a n g s l
  all_goals repeat' split
  all_goals first | rfl | (exfalso; omega) | simp_all
theorem clI_yes (K f t a n g s : Int) (l : List Int) : pkB K f t a n g s l = true ↔ 0 ≤ clI K f t a n g s l := by
  unfold clI
  cases pkB K f t a n g s l
  · simp
  · simp
    repeat' split
    all_goals omega
def mayB (c d : Int) (t g t' g' : Int) : Bool := decide (0 ≤ c ∧ 0 < d ∧ ¬ (c = 2 ∧ d = 2 ∧ t = t' ∧ g = g'))
theorem sMay_ev (K f t a n g s : Int) (l : List Int) (K' f' t' a' n' g' s' : Int) (l' : List Int) (hl : l.length ≤ 1048576) (hl' : l'.length ≤ 1048576) (k : Nat) (hk : 1048590 < k) : spec_MayPass.f k K f t a n g s l K' f' t' a' n' g' s' l' = some (mayB (clI K f t a n g s l) (clI K' f' t' a' n' g' s' l') t g t' g') := by
  unfold spec_MayPass.f
  rw [sClassOf_ev K f t a n g s l hl k hk, sClassOf_ev K' f' t' a' n' g' s' l' hl' k hk]
  simp only [Option.bind_some]
  unfold mayB
  generalize clI K f t a n g s l = c
  generalize clI K' f' t' a' n' g' s' l' = d
  repeat' split
  all_goals (congr 1; rw [Bool.eq_iff_iff]; simp only [decide_eq_true_eq, Bool.false_eq_true, bne_iff_ne, ne_eq, false_iff, true_iff]; omega)
theorem iMay_ev (K f t a n g s : Int) (l : List Int) (K' f' t' a' n' g' s' : Int) (l' : List Int) (hl : l.length ≤ 1048576) (hl' : l'.length ≤ 1048576) (k : Nat) (hk : 1048600 < k) : impl_MayPass.f k K f t a n g s l K' f' t' a' n' g' s' l' = some (mayB (clI K f t a n g s l) (clI K' f' t' a' n' g' s' l') t g t' g') := by
  unfold impl_MayPass.f
  obtain ⟨k, rfl⟩ : ∃ m, k = m + 1 := ⟨k - 1, by omega⟩
  rw [iIsPacket_ev K f t a n g s l hl _ (by omega), iIsPacket_ev K' f' t' a' n' g' s' l' hl' _ (by omega), iClassOf_ev K' f' t' a' n' g' s' l' hl' _ (by omega)]
  simp only [Option.bind_some, impl_MayPass.j0]
  rw [iClassOf_ev K f t a n g s l hl _ (by omega), iClassOf_ev K' f' t' a' n' g' s' l' hl' _ (by omega)]
  simp only [Option.bind_some, beq_iff_eq]
  have e1 := clI_yes K f t a n g s l
  have e2 := clI_yes K' f' t' a' n' g' s' l'
  unfold mayB
  generalize clI K f t a n g s l = c at e1 ⊢
  generalize clI K' f' t' a' n' g' s' l' = d at e2 ⊢
  generalize pkB K f t a n g s l = p at e1 ⊢
  generalize pkB K' f' t' a' n' g' s' l' = q at e2 ⊢
  cases p <;> cases q
  all_goals simp only [Bool.false_eq_true, if_false, if_true, false_iff, true_iff] at e1 e2 ⊢
  all_goals repeat' split
  all_goals (congr 1; rw [Bool.eq_iff_iff]; simp only [decide_eq_true_eq, Bool.false_eq_true, bne_iff_ne, ne_eq, false_iff, true_iff]; omega)
def SmallP (x : S69) : Prop := x.f7.length ≤ 1048576
def FitP (x : S69) : Prop := x.f7.length ≤ 9223372036854775807
def SmallQ (x : S60) : Prop := x.f7.length ≤ 1048576
/-- The same packet, once as the law holds it, once as the program does. -/
def cvP (x : S69) : S60 := ⟨x.f0, x.f1, x.f2, x.f3, x.f4, x.f5, x.f6, x.f7⟩
theorem cvP_small (l : List S69) (h : ∀ x ∈ l, SmallP x) : ∀ y ∈ l.map cvP, SmallQ y := by
  intro y hy
  obtain ⟨x, hx, rfl⟩ := List.mem_map.1 hy
  exact h x hx
def pkE (x : S60) : Bool := pkB x.f0 x.f1 x.f2 x.f3 x.f4 x.f5 x.f6 x.f7
theorem rdP_lt (l : List (S69)) (i : Nat) (h : i < l.length) : rd_T69 l (i : Int) = l[i] := by
  show l.getD i z69 = l[i]
  simp [h]
theorem rdQ_lt (l : List (S60)) (i : Nat) (h : i < l.length) : rd_T60 l (i : Int) = l[i] := by
  show l.getD i z60 = l[i]
  simp [h]
theorem szP (x : S69) (left : Int) (h0 : 0 ≤ left) (h1 : left ≤ 1048576) (hw : FitP x) : ∃ r, laws_szPacket.f x.f0 x.f1 x.f2 x.f3 x.f4 x.f5 x.f6 x.f7 left = some r ∧ r ≤ left ∧ (0 ≤ r → SmallP x) := by
  obtain ⟨r, e, hr, hr'⟩ := szPacket_eq x.f0 x.f1 x.f2 x.f3 x.f4 x.f5 x.f6 x.f7 left h0 h1 hw
  exact ⟨r, e, hr, fun h => by have := hr' h; unfold SmallP; omega⟩
theorem szPacketS_l0 (l : List (S69)) (hl : l.length ≤ 1048576) (hw : ∀ x ∈ l, FitP x) (d : Nat) : ∀ (i : Nat) (left : Int), 0 ≤ left → left ≤ 1048576 → i + d = l.length → ∃ r, (∀ k, d < k → laws_szPacketS.l0 k l left (i : Int) = some r) ∧ r ≤ left ∧ (0 ≤ r → ∀ x ∈ l.drop i, SmallP x) := by
  induction d with
  | zero =>
    intro i left h0 h1 hi
    refine ⟨left, fun k hk => ?_, Int.le_refl _, fun _ x hx => ?_⟩
    · obtain ⟨k, rfl⟩ : ∃ m, k = m + 1 := ⟨k - 1, by omega⟩
      simp only [laws_szPacketS.l0]
      rw [if_neg (show ¬ (i : Int) < (l.length : Int) by omega)]
    · rw [drop_all l i (by omega)] at hx; cases hx
  | succ d ih =>
    intro i left h0 h1 hi
    have hlt : i < l.length := by omega
    obtain ⟨q, e, hq1, hq2⟩ := szP l[i] left h0 h1 (hw _ (List.getElem_mem hlt))
    by_cases hq : q < 0
    · refine ⟨-1, fun k hk => ?_, by omega, fun h => by omega⟩
      obtain ⟨k, rfl⟩ : ∃ m, k = m + 1 := ⟨k - 1, by omega⟩
      simp only [laws_szPacketS.l0]
      rw [if_pos (show (i : Int) < (l.length : Int) by omega), if_pos (show (0 : Int) ≤ (i : Int) by omega), rdP_lt l i hlt, e]
      simp only [Option.bind_some]
      rw [if_pos hq]
    · obtain ⟨r, hr1, hr2, hr3⟩ := ih (i + 1) q (by omega) (by omega) (by omega)
      refine ⟨r, fun k hk => ?_, by omega, fun h x hx => ?_⟩
      · obtain ⟨k, rfl⟩ : ∃ m, k = m + 1 := ⟨k - 1, by omega⟩
        simp only [laws_szPacketS.l0]
        rw [if_pos (show (i : Int) < (l.length : Int) by omega), if_pos (show (0 : Int) ≤ (i : Int) by omega), rdP_lt l i hlt, e]
        simp only [Option.bind_some]
        rw [if_neg hq, wrap_succ i (by omega)]
        exact hr1 k (by omega)
      · rw [drop_cons l i hlt] at hx
        rcases List.mem_cons.1 hx with rfl | hx
        · exact hq2 (by omega)
        · exact hr3 h x hx
theorem szPacketS_ev (l : List (S69)) (left : Int) (h0 : 0 ≤ left) (h1 : left ≤ 1048576) (hm : l.length ≤ 9223372036854775807) (hw : ∀ x ∈ l, FitP x) : ∃ r, (∀ k, 1048577 ≤ k → laws_szPacketS.f k l left = some r) ∧ r ≤ left ∧ (0 ≤ r → l.length ≤ 1048576 ∧ ∀ x ∈ l, SmallP x) := by
  unfold laws_szPacketS.f
  rw [wrap_id _ (by omega)]
  by_cases h : left - (l.length : Int) < 0
  · refine ⟨-1, fun k hk => ?_, by omega, fun h => by omega⟩
    rw [if_pos h]
  · obtain ⟨r, hr1, hr2, hr3⟩ := szPacketS_l0 l (by omega) hw l.length 0 (left - (l.length : Int)) (by omega) (by omega) (by omega)
    refine ⟨r, fun k hk => ?_, by omega, fun h => ⟨by omega, fun x hx => hr3 h x (by simpa using hx)⟩⟩
    rw [if_neg h]
    exact hr1 k (by omega)
theorem toPacketS_l0 (l : List S69) (hb : l.length ≤ 1048576) (he : ∀ x ∈ l, SmallP x) (d : Nat) : ∀ (x : List S60) (i : Nat), x.length = l.length → x.take i = (l.map cvP).take i → i + d = l.length → ∀ k, 1048590 + d < k → laws_toPacketS.l0 k l x (i : Int) = some (l.map cvP) := by
  induction d with
  | zero =>
    intro x i hx ht hi k hk
    obtain ⟨k, rfl⟩ : ∃ m, k = m + 1 := ⟨k - 1, by omega⟩
    simp only [laws_toPacketS.l0]
    rw [if_neg (show ¬ (i : Int) < (l.length : Int) by omega), fill_end x (l.map cvP) i (by simp [hx]) (by simp; omega) ht]
  | succ d ih =>
    intro x i hx ht hi k hk
    obtain ⟨k, rfl⟩ : ∃ m, k = m + 1 := ⟨k - 1, by omega⟩
    have hlt : i < l.length := by omega
    have hs := he _ (List.getElem_mem hlt)
    unfold SmallP at hs
    simp only [laws_toPacketS.l0]
    rw [if_pos (show (i : Int) < (l.length : Int) by omega), if_pos (show (0 : Int) ≤ (i : Int) by omega), rdP_lt l i hlt, toPacket_ev l[i].f0 l[i].f1 l[i].f2 l[i].f3 l[i].f4 l[i].f5 l[i].f6 l[i].f7 hs k (by omega)]
    simp only [Option.bind_some]
    rw [if_pos (show (i : Int) < (x.length : Int) by omega), wrap_succ i (by omega), toNat_nat]
    exact ih _ (i + 1) (by simp [hx]) (fill_step x (l.map cvP) i _ (by omega) (by simp; omega) ht (by rw [List.getElem_map]; rfl)) (by omega) k (by omega)
theorem toPacketS_ev (l : List S69) (hb : l.length ≤ 1048576) (he : ∀ x ∈ l, SmallP x) : ∀ k, 2097170 < k → laws_toPacketS.f k l = some (l.map cvP) := by
  intro k hk
  unfold laws_toPacketS.f
  rw [if_pos (by omega), if_pos (by omega)]
  exact toPacketS_l0 l hb he l.length _ 0 (by simp) (by simp) (by omega) k (by omega)
theorem eqPacketS_l0 (l : List S60) (hb : l.length ≤ 1048576) (he : ∀ x ∈ l, SmallQ x) (d : Nat) : ∀ (i : Nat), i + d = l.length → ∀ k, 1048590 + d < k → laws_eqPacketS.l0 k l l (i : Int) = some true := by
  induction d with
  | zero =>
    intro i hi k hk
    obtain ⟨k, rfl⟩ : ∃ m, k = m + 1 := ⟨k - 1, by omega⟩
    simp only [laws_eqPacketS.l0]
    rw [if_neg (show ¬ (i : Int) < (l.length : Int) by omega)]
  | succ d ih =>
    intro i hi k hk
    obtain ⟨k, rfl⟩ : ∃ m, k = m + 1 := ⟨k - 1, by omega⟩
    have hlt : i < l.length := by omega
    have hs := he _ (List.getElem_mem hlt)
    unfold SmallQ at hs
    simp only [laws_eqPacketS.l0]
    rw [if_pos (show (i : Int) < (l.length : Int) by omega), if_pos (show (0 : Int) ≤ (i : Int) by omega), if_pos (show (i : Int) < (l.length : Int) by omega), rdQ_lt l i hlt, eqPacket_ev l[i].f0 l[i].f1 l[i].f2 l[i].f3 l[i].f4 l[i].f5 l[i].f6 l[i].f7 hs k (by omega)]
    simp only [Option.bind_some, if_true]
    rw [wrap_succ i (by omega)]
    exact ih (i + 1) (by omega) k (by omega)
theorem eqPacketS_ev (l : List S60) (hb : l.length ≤ 1048576) (he : ∀ x ∈ l, SmallQ x) : ∀ k, 2097170 < k → laws_eqPacketS.f k l l = some true := by
  intro k hk
  unfold laws_eqPacketS.f
  rw [if_pos rfl]
  exact eqPacketS_l0 l hb he l.length 0 (by omega) k (by omega)
def clE (x : S60) : Int := clI x.f0 x.f1 x.f2 x.f3 x.f4 x.f5 x.f6 x.f7
theorem sCl (k : Nat) (x : S60) (h : SmallQ x) (hk : 1048590 < k) : spec_ClassOf.f k x.f0 x.f1 x.f2 x.f3 x.f4 x.f5 x.f6 x.f7 = some (clE x) := sClassOf_ev x.f0 x.f1 x.f2 x.f3 x.f4 x.f5 x.f6 x.f7 h k hk
theorem iCl (k : Nat) (x : S60) (h : SmallQ x) (hk : 1048590 < k) : impl_ClassOf.f k x.f0 x.f1 x.f2 x.f3 x.f4 x.f5 x.f6 x.f7 = some (clE x) := iClassOf_ev x.f0 x.f1 x.f2 x.f3 x.f4 x.f5 x.f6 x.f7 h k hk
def mayE (x y : S60) : Bool := mayB (clE x) (clE y) x.f2 x.f5 y.f2 y.f5
theorem sMay (k : Nat) (x y : S60) (h : SmallQ x) (h' : SmallQ y) (hk : 1048600 < k) : spec_MayPass.f k x.f0 x.f1 x.f2 x.f3 x.f4 x.f5 x.f6 x.f7 y.f0 y.f1 y.f2 y.f3 y.f4 y.f5 y.f6 y.f7 = some (mayE x y) := sMay_ev x.f0 x.f1 x.f2 x.f3 x.f4 x.f5 x.f6 x.f7 y.f0 y.f1 y.f2 y.f3 y.f4 y.f5 y.f6 y.f7 h h' k (by omega)
theorem iMay (k : Nat) (x y : S60) (h : SmallQ x) (h' : SmallQ y) (hk : 1048600 < k) : impl_MayPass.f k x.f0 x.f1 x.f2 x.f3 x.f4 x.f5 x.f6 x.f7 y.f0 y.f1 y.f2 y.f3 y.f4 y.f5 y.f6 y.f7 = some (mayE x y) := iMay_ev x.f0 x.f1 x.f2 x.f3 x.f4 x.f5 x.f6 x.f7 y.f0 y.f1 y.f2 y.f3 y.f4 y.f5 y.f6 y.f7 h h' k (by omega)
theorem small_rd (p : List S60) (hs : ∀ x ∈ p, SmallQ x) (y : Int) : SmallQ (rd_T60 p y) := by
  unfold rd_T60
  rw [List.getD_eq_getElem?_getD]
  cases h : p[y.toNat]? with
  | none => show ([] : List Int).length ≤ 1048576; simp
  | some x => exact hs x (List.mem_of_getElem? h)
theorem sPk (k : Nat) (x : S60) (h : SmallQ x) (hk : 1048590 < k) : spec_IsPacket.f k x.f0 x.f1 x.f2 x.f3 x.f4 x.f5 x.f6 x.f7 = some (pkE x) := sIsPacket_ev x.f0 x.f1 x.f2 x.f3 x.f4 x.f5 x.f6 x.f7 h k (by omega)
theorem iPk (k : Nat) (x : S60) (h : SmallQ x) (hk : 1048590 < k) : impl_IsPacket.f k x.f0 x.f1 x.f2 x.f3 x.f4 x.f5 x.f6 x.f7 = some (pkE x) := iIsPacket_ev x.f0 x.f1 x.f2 x.f3 x.f4 x.f5 x.f6 x.f7 h k (by omega)
theorem rdT_lt (l : List (S60)) (i : Nat) (h : i < l.length) : rd_T60 l (i : Int) = l[i] := by
  show l.getD i (⟨0, 0, 0, 0, 0, 0, 0, []⟩ : S60) = l[i]
  simp [h]
/-- The numbers s, s + 1, .. -/
def markL (n : Nat) (s : Int) : List Int := (List.range n).map fun (i : Nat) => s + (i : Int)
theorem markL_length (n : Nat) (s : Int) : (markL n s).length = n := by simp [markL]
theorem markL_get (n : Nat) (s : Int) (i : Nat) (h : i < (markL n s).length) : (markL n s)[i] = s + (i : Int) := by simp [markL]
theorem markIntS_l0 (n : Nat) (s : Int) (hn : n ≤ 1048576) (h0 : 0 ≤ s) (h1 : s ≤ 4000000000000000000) (d : Nat) : ∀ (x : List Int) (i : Nat), x.length = n → x.take i = (markL n s).take i → i + d = n → ∀ k, d < k → laws_markIntS.l0 k x (s + (i : Int)) (i : Int) = some (s + (n : Int), markL n s) := by
  induction d with
  | zero =>
    intro x i hx ht hi k hk
    obtain ⟨k, rfl⟩ : ∃ m, k = m + 1 := ⟨k - 1, by omega⟩
    simp only [laws_markIntS.l0]
    have hlen := markL_length n s
    rw [if_neg (show ¬ (i : Int) < (x.length : Int) by omega), fill_end x (markL n s) i (by omega) (by omega) ht, show i = n by omega]
  | succ d ih =>
    intro x i hx ht hi k hk
    obtain ⟨k, rfl⟩ : ∃ m, k = m + 1 := ⟨k - 1, by omega⟩
    have hlen := markL_length n s
    simp only [laws_markIntS.l0]
    rw [if_pos (show (i : Int) < (x.length : Int) by omega), if_pos (show (0 : Int) ≤ (i : Int) by omega), wrap_succ i (by omega), toNat_nat, wrap_id (s + (i : Int) + 1) (by omega)]
    have e : s + (i : Int) + 1 = s + ((i + 1 : Nat) : Int) := by omega
    rw [e]
    exact ih _ (i + 1) (by simp [hx]) (fill_step x (markL n s) i _ (by omega) (by omega) ht (markL_get n s i (by omega)).symm) (by omega) k (by omega)
theorem markIntS_ev (l : List Int) (s : Int) (hn : l.length ≤ 1048576) (h0 : 0 ≤ s) (h1 : s ≤ 4000000000000000000) (k : Nat) (hk : l.length < k) : laws_markIntS.f k l s = some (s + (l.length : Int), markL l.length s) := by
  unfold laws_markIntS.f
  have h := markIntS_l0 l.length s hn h0 h1 l.length l 0 rfl (by simp) (by omega) k hk
  simpa using h
theorem heldIntS_l0 (n : Nat) (s : Int) (hn : n ≤ 1048576) (h0 : 0 ≤ s) (h1 : s ≤ 4000000000000000000) (d : Nat) : ∀ (i : Nat), i + d = n → ∀ k, d < k → laws_heldIntS.l0 k (markL n s) (s + (i : Int)) (i : Int) = some (s + (n : Int)) := by
  have hlen := markL_length n s
  induction d with
  | zero =>
    intro i hi k hk
    obtain ⟨k, rfl⟩ : ∃ m, k = m + 1 := ⟨k - 1, by omega⟩
    simp only [laws_heldIntS.l0]
    rw [if_neg (show ¬ (i : Int) < ((markL n s).length : Int) by omega), show i = n by omega]
  | succ d ih =>
    intro i hi k hk
    obtain ⟨k, rfl⟩ : ∃ m, k = m + 1 := ⟨k - 1, by omega⟩
    simp only [laws_heldIntS.l0]
    rw [if_pos (show (i : Int) < ((markL n s).length : Int) by omega), if_pos (show (0 : Int) ≤ (i : Int) by omega), rd_lt _ i (by omega), markL_get n s i (by omega), if_pos rfl, wrap_succ i (by omega), wrap_id (s + (i : Int) + 1) (by omega)]
    have e : s + (i : Int) + 1 = s + ((i + 1 : Nat) : Int) := by omega
    rw [e]
    exact ih (i + 1) (by omega) k (by omega)
theorem heldIntS_ev (n : Nat) (s : Int) (hn : n ≤ 1048576) (h0 : 0 ≤ s) (h1 : s ≤ 4000000000000000000) (k : Nat) (hk : n < k) : laws_heldIntS.f k (markL n s) s = some (s + (n : Int)) := by
  unfold laws_heldIntS.f
  have h := heldIntS_l0 n s hn h0 h1 n 0 (by omega) k hk
  simpa using h
/-- What is a packet, and may not be passed by the other. -/
def stopB (x p : S60) : Bool := if pkE p = true then !(mayE x p) else false
def pB (l : List S60) (i : Int) : Bool := if pkE (rd_T60 l i) = true then !((l.take i.toNat).any (stopB (rd_T60 l i))) else false
theorem stop_ev (x p : S60) (hx : SmallQ x) (hp : SmallQ p) (k : Nat) (hk : 1048600 < k) : impl_passes_1.f k x p.f0 p.f1 p.f2 p.f3 p.f4 p.f5 p.f6 p.f7 = some (stopB x p) := by
  unfold impl_passes_1.f stopB
  rw [iPk k p hp (by omega)]
  simp only [Option.bind_some]
  by_cases h : pkE p = true
  · rw [if_pos h, if_pos h, iMay k x p hx hp (by omega)]
    rfl
  · rw [if_neg h, if_neg h]
theorem ix_l0 (x : S60) (hx : SmallQ x) (l : List S60) (hl : l.length ≤ 1048576) (hs : ∀ y ∈ l, SmallQ y) (d : Nat) : ∀ i : Nat, i + d = l.length → ∀ k, 1048600 + d < k → ∃ r, impl_passes_ix.l0 k l x (l.length : Int) (i : Int) = some r ∧ decide (r ≥ 0) = (l.drop i).any (stopB x) := by
  induction d with
  | zero =>
    intro i hi k hk
    obtain ⟨k, rfl⟩ : ∃ m, k = m + 1 := ⟨k - 1, by omega⟩
    refine ⟨-1, ?_, ?_⟩
    · simp only [impl_passes_ix.l0]
      rw [if_neg (by omega)]
    · rw [drop_all l i (by omega)]; rfl
  | succ d ih =>
    intro i hi k hk
    obtain ⟨k, rfl⟩ : ∃ m, k = m + 1 := ⟨k - 1, by omega⟩
    have hlt : i < l.length := by omega
    have hr : rd_T60 l (i : Int) = l[i] := rdT_lt l i hlt
    have hw := stop_ev x l[i] hx (hs _ (List.getElem_mem hlt)) k (by omega)
    simp only [impl_passes_ix.l0]
    rw [if_pos (by omega), if_pos (by omega), if_pos (by omega), hr, hw]
    simp only [Option.bind_some]
    by_cases h : stopB x l[i] = true
    · refine ⟨(i : Int), by rw [if_pos h], ?_⟩
      rw [any_drop_yes l i hlt _ h]
      exact decide_eq_true (by omega)
    · obtain ⟨r, h1, h2⟩ := ih (i + 1) (by omega) k (by omega)
      refine ⟨r, by rw [if_neg h, wrap_succ i (by omega)]; exact h1, ?_⟩
      rw [any_drop_no l i hlt _ h]
      exact h2
theorem has_stop (x : S60) (hx : SmallQ x) (l : List S60) (hl : l.length ≤ 1048576) (hs : ∀ y ∈ l, SmallQ y) (k : Nat) (hk : 2097200 < k) : impl_passes_has.f k l x = some (l.any (stopB x)) := by
  unfold impl_passes_has.f impl_passes_ix.f
  obtain ⟨r, h1, h2⟩ := ix_l0 x hx l hl hs l.length 0 (by omega) k (by omega)
  have c0 : ((0 : Nat) : Int) = 0 := rfl
  rw [c0] at h1
  rw [h1]
  simp only [Option.bind_some]
  rw [h2, List.drop_zero]
theorem passes_ev (l : List S60) (hl : l.length ≤ 1048576) (hs : ∀ y ∈ l, SmallQ y) (i : Nat) (hi : i < l.length) (k : Nat) (hk : 2097200 < k) : impl_passes.f k l (i : Int) = some (pB l (i : Int)) := by
  have hr : rd_T60 l (i : Int) = l[i] := rdT_lt l i hi
  have hx := hs _ (List.getElem_mem hi)
  unfold impl_passes.f pB
  rw [if_pos (by omega), if_pos (by omega), hr, iPk k l[i] hx (by omega), toNat_nat]
  simp only [Option.bind_some]
  by_cases h : pkE l[i] = true
  · rw [if_pos h, if_pos h, has_stop l[i] hx (l.take i) (by rw [List.length_take]; omega) (fun y hy => hs y (List.mem_of_mem_take hy)) k hk]
    rfl
  · rw [if_neg h, if_neg h]
/-- The places that may go, of the first n. -/
def passL (l : List S60) : Nat → List Int
  | 0 => []
  | n + 1 => passL l n ++ (if pB l (n : Int) = true then [(n : Int)] else [])
theorem passL_len (l : List S60) (n : Nat) : (passL l n).length ≤ n := by
  induction n with
  | zero => simp [passL]
  | succ n ih =>
    simp only [passL, List.length_append]
    split <;> simp <;> omega
theorem passL_mem (l : List S60) (n : Nat) : ∀ x ∈ passL l n, ∃ i : Nat, x = (i : Int) ∧ i < n ∧ pB l (i : Int) = true := by
  induction n with
  | zero => intro x hx; simp [passL] at hx
  | succ n ih =>
    intro x hx
    simp only [passL, List.mem_append] at hx
    rcases hx with hx | hx
    · obtain ⟨i, h1, h2, h3⟩ := ih x hx
      exact ⟨i, h1, by omega, h3⟩
    · by_cases h : pB l (n : Int) = true
      · rw [if_pos h] at hx
        exact ⟨n, List.mem_singleton.1 hx, by omega, h⟩
      · rw [if_neg h] at hx; simp at hx
theorem iPassers_l0 (l : List S60) (hl : l.length ≤ 1048576) (hs : ∀ y ∈ l, SmallQ y) (d : Nat) : ∀ i : Nat, i + d = l.length → ∀ k, 2097200 + d < k → impl_PassersOf.l0 k l (passL l i) (l.length : Int) (i : Int) = some (passL l l.length) := by
  induction d with
  | zero =>
    intro i hi k hk
    obtain ⟨k, rfl⟩ : ∃ m, k = m + 1 := ⟨k - 1, by omega⟩
    simp only [impl_PassersOf.l0]
    rw [if_neg (by omega), show i = l.length by omega]
  | succ d ih =>
    intro i hi k hk
    obtain ⟨k, rfl⟩ : ∃ m, k = m + 1 := ⟨k - 1, by omega⟩
    have hn := passL_len l i
    have ih := ih (i + 1) (by omega) k (by omega)
    simp only [impl_PassersOf.l0]
    rw [if_pos (by omega), passes_ev l hl hs i (by omega) k (by omega), wrap_succ i (by omega)]
    simp only [Option.bind_some]
    simp only [passL] at ih
    by_cases h : pB l (i : Int) = true
    · rw [if_pos h] at ih ⊢
      rw [if_pos (by omega)]
      exact ih
    · rw [if_neg h] at ih ⊢
      rw [List.append_nil] at ih
      exact ih
theorem iPassers_ev (l : List S60) (hl : l.length ≤ 1048576) (hs : ∀ y ∈ l, SmallQ y) (k : Nat) (hk : 3145800 < k) : impl_PassersOf.f k l = some (passL l l.length) := by
  unfold impl_PassersOf.f
  exact iPassers_l0 l hl hs l.length 0 (by omega) k (by omega)
/-- Who passes may pass every packet before it. -/
theorem pB_may (l : List S60) (hp : ∀ x ∈ l, pkE x = true) (i : Nat) (hi : i < l.length) (h : pB l (i : Int) = true) (j : Nat) (hj : j < i) : mayE (rd_T60 l (i : Int)) (rd_T60 l (j : Int)) = true := by
  have hr : rd_T60 l (j : Int) = l[j] := rdT_lt l j (by omega)
  unfold pB at h
  split at h
  · rw [toNat_nat, Bool.not_eq_true', List.any_eq_false] at h
    have h1 := h l[j] (List.mem_take_iff_getElem.2 ⟨j, by omega, rfl⟩)
    unfold stopB at h1
    rw [if_pos (hp _ (List.getElem_mem (by omega)))] at h1
    rw [hr]
    simpa using h1
  · cases h
theorem sP_l1 (q : List S60) (hq : q.length ≤ 1048576) (hs : ∀ x ∈ q, SmallQ x) (i : Nat) (hi : i < q.length) (pre : List Int) (hpre : pre.length ≤ 1048576) (L : List Int) (K : Nat) (hK : 1048600 ≤ K) (bF : Bool) (hT : ∀ k, K < k → spec_PassersOf.l0 k q (if bF = true then pre ++ [(i : Int)] else pre) ((i + 1 : Nat) : Int) = some L) (d : Nat) :
    ∀ (j : Nat) (ok : Bool), j + d = i → (ok && !(((q.take i).drop j).any (stopB (rd_T60 q (i : Int))))) = bF → ∀ k, K + d + 1 < k → spec_PassersOf.l1 k q pre (i : Int) ok (j : Int) = some L := by
  induction d with
  | zero =>
    intro j ok hj hb k hk
    obtain ⟨k, rfl⟩ : ∃ m, k = m + 1 := ⟨k - 1, by omega⟩
    rw [drop_all (q.take i) j (by rw [List.length_take]; omega), List.any_nil, Bool.not_false, Bool.and_true] at hb
    subst hb
    have hT := hT k (by omega)
    rw [spec_PassersOf.l1]
    rw [if_neg (by omega), wrap_succ i (by omega)]
    by_cases h : ok = true
    · rw [if_pos h] at hT ⊢
      rw [if_pos (by omega)]
      exact hT
    · rw [if_neg h] at hT ⊢
      exact hT
  | succ d ih =>
    intro j ok hj hb k hk
    obtain ⟨k, rfl⟩ : ∃ m, k = m + 1 := ⟨k - 1, by omega⟩
    have hj1 : j < (q.take i).length := by rw [List.length_take]; omega
    have hjq : j < q.length := by omega
    have hr : rd_T60 q (j : Int) = q[j] := rdT_lt q j hjq
    have hri : rd_T60 q (i : Int) = q[i] := rdT_lt q i hi
    have hsj := hs _ (List.getElem_mem hjq)
    have hsi := hs _ (List.getElem_mem hi)
    rw [drop_cons (q.take i) j hj1, List.any_cons, List.getElem_take, hri] at hb
    rw [spec_PassersOf.l1]
    rw [if_pos (by omega), wrap_succ j (by omega)]
    have ih := fun ok hb => ih (j + 1) ok (by omega) hb k (by omega)
    rw [hri] at ih
    by_cases h : ok = true
    · subst h
      rw [if_pos rfl, if_pos (by omega), if_pos (by omega), hr, sPk k q[j] hsj (by omega)]
      simp only [Option.bind_some]
      by_cases hp : pkE q[j] = true
      · rw [if_pos hp, if_pos (by omega), if_pos (by omega), hri, sMay k q[i] q[j] hsi hsj (by omega)]
        simp only [Option.bind_some]
        refine ih _ ?_
        rw [← hb]
        unfold stopB
        rw [if_pos hp]
        cases mayE q[i] q[j] <;> simp
      · rw [if_neg hp]
        refine ih _ ?_
        rw [← hb]
        unfold stopB
        rw [if_neg hp]
        simp
    · rw [if_neg h]
      refine ih _ ?_
      rw [← hb, Bool.eq_false_iff.mpr h]
      simp
theorem pB_eq (q : List S60) (i : Nat) : (pkE (rd_T60 q (i : Int)) && !(((q.take i).drop 0).any (stopB (rd_T60 q (i : Int))))) = pB q (i : Int) := by
  unfold pB
  rw [List.drop_zero, toNat_nat]
  by_cases h : pkE (rd_T60 q (i : Int)) = true
  · rw [if_pos h, h, Bool.true_and]
  · rw [if_neg h, Bool.eq_false_iff.mpr h, Bool.false_and]
theorem sP_l0 (q : List S60) (hq : q.length ≤ 1048576) (hs : ∀ x ∈ q, SmallQ x) (d : Nat) : ∀ i : Nat, i + d = q.length → ∀ k, 1048600 + d * 1048700 < k → spec_PassersOf.l0 k q (passL q i) (i : Int) = some (passL q q.length) := by
  induction d with
  | zero =>
    intro i hi k hk
    obtain ⟨k, rfl⟩ : ∃ m, k = m + 1 := ⟨k - 1, by omega⟩
    rw [spec_PassersOf.l0]
    rw [if_neg (by omega), show i = q.length by omega]
  | succ d ih =>
    intro i hi k hk
    obtain ⟨k, rfl⟩ : ∃ m, k = m + 1 := ⟨k - 1, by omega⟩
    have hn := passL_len q i
    have hlt : i < q.length := by omega
    have hri : rd_T60 q (i : Int) = q[i] := rdT_lt q i hlt
    have hT : ∀ k, 1048600 + d * 1048700 < k → spec_PassersOf.l0 k q (if pB q (i : Int) = true then passL q i ++ [(i : Int)] else passL q i) ((i + 1 : Nat) : Int) = some (passL q q.length) := fun k hk => by
      have h := ih (i + 1) (by omega) k hk
      rw [passL] at h
      by_cases hb : pB q (i : Int) = true
      · rw [if_pos hb] at h ⊢; exact h
      · rw [if_neg hb] at h ⊢; rw [List.append_nil] at h; exact h
    have h := sP_l1 q hq hs i hlt (passL q i) (by omega) _ (1048600 + d * 1048700) (by omega) _ hT i 0 (pkE (rd_T60 q (i : Int))) (by omega) (pB_eq q i) k (by omega)
    rw [spec_PassersOf.l0]
    rw [if_pos (by omega), if_pos (by omega)]
    rw [hri] at h ⊢
    rw [sPk k q[i] (hs _ (List.getElem_mem hlt)) (by omega)]
    simp only [Option.bind_some]
    exact h
theorem sPassers_ev (q : List S60) (hq : q.length ≤ 1048576) (hs : ∀ x ∈ q, SmallQ x) (k : Nat) (hk : 1099644500000 < k) : spec_PassersOf.f k q = some (passL q q.length) := by
  unfold spec_PassersOf.f
  exact sP_l0 q hq hs q.length 0 (by omega) k (by omega)
theorem markPS_l0 (d : Nat) : ∀ (l : List S60) (i : Nat) (c : Int), l.length ≤ 1048576 → (∀ x ∈ l, SmallQ x) → i + d = l.length → 0 ≤ c → c + (d : Int) * 1048583 ≤ 2000000000000 → ∀ k, 1048600 + d < k → ∃ c' l', laws_markPacketS.l0 k l c (i : Int) = some (c', l') ∧ 0 ≤ c' := by
  induction d with
  | zero =>
    intro l i c hl hs hi h0 h1 k hk
    obtain ⟨k, rfl⟩ : ∃ m, k = m + 1 := ⟨k - 1, by omega⟩
    refine ⟨c, l, ?_, h0⟩
    rw [laws_markPacketS.l0]
    rw [if_neg (by omega)]
  | succ d ih =>
    intro l i c hl hs hi h0 h1 k hk
    obtain ⟨k, rfl⟩ : ∃ m, k = m + 1 := ⟨k - 1, by omega⟩
    have hlt : i < l.length := by omega
    have hr : rd_T60 l (i : Int) = l[i] := rdT_lt l i hlt
    have hx : l[i].f7.length ≤ 1048576 := hs _ (List.getElem_mem hlt)
    have e0 : wrap64 (c + 1) = c + 1 := wrap_id _ (by omega)
    have e1 : wrap64 (c + 1 + 1) = c + 1 + 1 := wrap_id _ (by omega)
    have e2 : wrap64 (c + 1 + 1 + 1) = c + 1 + 1 + 1 := wrap_id _ (by omega)
    have e3 : wrap64 (c + 1 + 1 + 1 + 1) = c + 1 + 1 + 1 + 1 := wrap_id _ (by omega)
    have e4 : wrap64 (c + 1 + 1 + 1 + 1 + 1) = c + 1 + 1 + 1 + 1 + 1 := wrap_id _ (by omega)
    have e5 : wrap64 (c + 1 + 1 + 1 + 1 + 1 + 1) = c + 1 + 1 + 1 + 1 + 1 + 1 := wrap_id _ (by omega)
    have e6 : wrap64 (c + 1 + 1 + 1 + 1 + 1 + 1 + 1) = c + 1 + 1 + 1 + 1 + 1 + 1 + 1 := wrap_id _ (by omega)
    rw [laws_markPacketS.l0]
    rw [if_pos (by omega), if_pos (by omega), hr, e0, e1, e2, e3, e4, e5, e6]
    rw [markIntS_ev l[i].f7 _ hx (by omega) (by omega) k (by omega)]
    simp only [Option.bind_some]
    rw [wrap_succ i (by omega)]
    refine ih _ (i + 1) _ (by rw [List.length_set]; exact hl) (fun x hx' => ?_) (by rw [List.length_set]; omega) (by omega) (by omega) k (by omega)
    rcases List.mem_or_eq_of_mem_set hx' with h | h
    · exact hs x h
    · rw [h]
      show (markL l[i].f7.length _).length ≤ 1048576
      rw [markL_length]
      exact hx
theorem markPS_ev (l : List S60) (hl : l.length ≤ 1048576) (hs : ∀ x ∈ l, SmallQ x) (k : Nat) (hk : 2097200 < k) : ∃ c' l', laws_markPacketS.f k l 1 = some (c', l') ∧ 0 ≤ c' := markPS_l0 l.length l 0 1 hl hs (by omega) (by omega) (by omega) k (by omega)
theorem FnExactPassersOf : laws_FnExactPassersOf.Pure := by
  intro p ⟨mp, fp⟩
  obtain ⟨r, e1, _, e2⟩ := szPacketS_ev p 1048576 (by omega) (by omega) mp (fun x hx => (fp x hx).2.2.2.2.2.2.2.1)
  refine ⟨1099644600000, ?_⟩
  unfold laws_FnExactPassersOf.f
  rw [e1 _ (by omega)]
  simp only [Option.bind_some]
  by_cases h0 : r < 0
  · rw [if_pos h0]
  obtain ⟨hp, hsp⟩ := e2 (by omega)
  obtain ⟨q, hq⟩ : ∃ q, q = p.map cvP := ⟨_, rfl⟩
  have hp' : q.length ≤ 1048576 := by rw [hq, List.length_map]; exact hp
  have hsq : ∀ x ∈ q, SmallQ x := by rw [hq]; exact cvP_small p hsp
  have hto : laws_toPacketS.f 1099644600000 p = some q := by rw [hq]; exact toPacketS_ev p hp hsp _ (by omega)
  obtain ⟨P, hP⟩ : ∃ P, P = passL q q.length := ⟨_, rfl⟩
  have hPl : P.length ≤ 1048576 := by have := passL_len q q.length; rw [hP]; omega
  have hsP : spec_PassersOf.f 1099644600000 q = some P := by rw [hP]; exact sPassers_ev q hp' hsq _ (by omega)
  have hiP : impl_PassersOf.f 1099644600000 q = some P := by rw [hP]; exact iPassers_ev q hp' hsq _ (by omega)
  have heq := eqIntS_ev P P (by omega) 1099644600000 (by omega)
  rw [decide_eq_true rfl] at heq
  obtain ⟨c', l', hm, hc⟩ := markPS_ev q hp' hsq 1099644600000 (by omega)
  have hmi := markIntS_ev P 1 hPl (by omega) (by omega) 1099644600000 (by omega)
  have hhe := heldIntS_ev P.length 1 hPl (by omega) (by omega) 1099644600000 (by omega)
  rw [if_neg h0, hto]
  simp only [Option.bind_some, hsP, hiP, hto]
  simp only [heq, Option.bind_some, if_true]
  rw [eqPacketS_ev q hp' hsq _ (by omega)]
  simp only [Option.bind_some, if_true, hm]
  rw [if_pos (by omega)]
  simp only [hmi, hhe, Option.bind_some]
  rw [if_pos (by omega)]
  simp
  omega

end Go.Proofs.Ytbdehpmfemgooaa.Pure
