/- The statement FnExactSpendCredits over whole numbers and lists of such: the program and the reference answer alike, neither changes what it is given, and the program's answer shares no memory with its arguments or with the answer of another call. What is larger than the law's own bound is let by, as the law itself does. -/
import Derived.Test.YtkapncihoabnmaaPFnExactSpendCreditsx13
import Derived.Test.YtkapncihoabnmaaSLists
namespace Go.Proofs.Ytkapncihoabnmaa.Pure
set_option linter.unusedVariables false
set_option linter.unusedSimpArgs false
open Go.RowKit Go.Proofs.Ytkapncihoabnmaa.PFnExactSpendCredits Go.Proofs.YtkapncihoabnmaaW.PrintWords Go.Proofs.YtkapncihoabnmaaW.PrintLast Go.Proofs.YtkapncihoabnmaaW.PrintMore Go.Proofs.YtkapncihoabnmaaX

theorem within_eq (a l m : Int) : impl_within.f a l m = some (decide (l ≤ a ∧ a ≤ m)) := by
  unfold impl_within.f
  by_cases h : a ≥ l
  · have h' : l ≤ a := h
    rw [if_pos h]; simp [h']
  · have h' : ¬ l ≤ a := h
    rw [if_neg h]; simp [h']
theorem l01In_eq (a l m : Int) : spec_l01In.f a l m = some (decide (l ≤ a ∧ a ≤ m)) := by
  unfold spec_l01In.f
  by_cases h : a ≥ l
  · have h' : l ≤ a := h
    rw [if_pos h]; simp [h']
  · have h' : ¬ l ≤ a := h
    rw [if_neg h]; simp [h']
theorem any_not {α : Type} (l : List α) (p : α → Bool) : (!l.any fun x => !p x) = l.all p := by
  induction l with
  | nil => rfl
  | cons a l ih => rw [List.any_cons, List.all_cons, Bool.not_or, ih, Bool.not_not]
def wordB (x : Int) : Bool := decide (0 ≤ x ∧ x ≤ 65535)
/-- A valid packet, kind by kind: its words are words (W), and it has m of them. -/
def pkQ (K f t a n g s : Int) (W : Bool) (m : Int) : Prop := (0 ≤ f ∧ f ≤ 255) ∧ W = true ∧
  ((K = 1 ∧ 1 ≤ m ∧ m ≤ 8 ∧ 0 ≤ a ∧ a ≤ 65536 - m ∧ s = 0 ∧ t = 0 ∧ n = 0 ∧ g = 0) ∨
   (K = 2 ∧ 1 ≤ m ∧ m ≤ 8 ∧ a = 0 ∧ s = 0 ∧ t = 0 ∧ n = 0 ∧ g = 0) ∨
   (K = 3 ∧ m = 0 ∧ 1 ≤ n ∧ n ≤ 64 ∧ 0 ≤ a ∧ a ≤ 65536 - n ∧ 0 ≤ g ∧ g ≤ 7 ∧ s = 0 ∧ t = 0) ∨
   (K = 4 ∧ m = 0 ∧ 0 ≤ a ∧ a ≤ 63 ∧ 0 ≤ t ∧ t ≤ 255 ∧ 0 ≤ g ∧ g ≤ 7 ∧ s = 0 ∧ n = 0) ∨
   (K = 5 ∧ m = 1 ∧ 0 ≤ a ∧ a ≤ 63 ∧ 0 ≤ t ∧ t ≤ 255 ∧ 0 ≤ g ∧ g ≤ 7 ∧ s = 0 ∧ n = 0) ∨
   (K = 6 ∧ a = 0 ∧ 0 ≤ t ∧ t ≤ 255 ∧ 0 ≤ g ∧ g ≤ 7 ∧ 0 ≤ s ∧ s ≤ 2 ∧ 0 ≤ n ∧ n ≤ 64 ∧ (m = 0 ∨ s = 0 ∧ m ≤ 8 ∧ m ≤ n)))
instance (K f t a n g s : Int) (W : Bool) (m : Int) : Decidable (pkQ K f t a n g s W m) := by unfold pkQ; infer_instance
def pkB (K f t a n g s : Int) (l : List Int) : Bool := decide (pkQ K f t a n g s (l.all wordB) (l.length : Int))
/-- Whether the data fit to the kind, as the program asks it. -/
def dataQ (K n s : Int) (m : Int) : Prop := (K = 1 ∨ K = 2) ∧ 1 ≤ m ∧ m ≤ 8 ∨ K = 5 ∧ m = 1 ∨ K = 6 ∧ s = 0 ∧ m ≤ 8 ∧ m ≤ n ∨ (K ≠ 1 ∧ K ≠ 2 ∧ K ≠ 5 ∧ ¬ (K = 6 ∧ s = 0)) ∧ m = 0
instance (K n s m : Int) : Decidable (dataQ K n s m) := by unfold dataQ; infer_instance
theorem sWords_l0 (l : List (Int)) (hl : l.length ≤ 1048576) (d : Nat) : ∀ i : Nat, i + d = l.length → ∀ k, 0 + d < k → spec_l04Words.l0 k l (i : Int) = some ((l.drop i).all wordB && true) := by
  induction d with
  | zero =>
    intro i hi k hk
    obtain ⟨k, rfl⟩ : ∃ m, k = m + 1 := ⟨k - 1, by omega⟩
    simp only [spec_l04Words.l0]
    rw [if_neg (show ¬ (i : Int) < (l.length : Int) by omega), drop_all l i (by omega)]
    simp
  | succ d ih =>
    intro i hi k hk
    obtain ⟨k, rfl⟩ : ∃ m, k = m + 1 := ⟨k - 1, by omega⟩
    have hlt : i < l.length := by omega
    simp only [spec_l04Words.l0]
    rw [if_pos (show (i : Int) < (l.length : Int) by omega), if_pos (show (0 : Int) ≤ (i : Int) by omega), rd_lt l i hlt, show spec_l01In.f l[i] 0 65535 = some (wordB l[i]) from l01In_eq _ _ _]
    simp only [Option.bind_some]
    by_cases hp : wordB l[i] = true
    · rw [if_pos hp, wrap_succ i (by omega), ih (i + 1) (by omega) k (by omega), drop_cons l i hlt, List.all_cons, hp, Bool.true_and]
    · rw [if_neg hp, drop_cons l i hlt, List.all_cons, Bool.eq_false_iff.mpr hp, Bool.false_and, Bool.false_and]
theorem sWords_ev (l : List Int) (hl : l.length ≤ 1048576) (k : Nat) (hk : l.length < k) : spec_l04Words.f k l = some (l.all wordB) := by
  have h := sWords_l0 l hl l.length 0 (by omega) k (by omega)
  rw [Bool.and_true] at h
  exact h
theorem notWord_eq (x : Int) : impl_Packet_dataOk_1.f x = some (!wordB x) := by
  unfold impl_Packet_dataOk_1.f impl_isWord.f
  rw [within_eq]
  rfl
theorem cWords_l0 (l : List (Int)) (hl : l.length ≤ 1048576) (d : Nat) : ∀ i : Nat, i + d = l.length → ∀ k, 0 + d < k → ∃ r, slices_IndexFunc_int_int__impl_Packet__dataOk_1.l0 k l (l.length : Int) (i : Int) = some r ∧ decide (r ≥ 0) = (l.drop i).any (fun x => !wordB x) := by
  induction d with
  | zero =>
    intro i hi k hk
    obtain ⟨k, rfl⟩ : ∃ m, k = m + 1 := ⟨k - 1, by omega⟩
    refine ⟨-1, ?_, ?_⟩
    · simp only [slices_IndexFunc_int_int__impl_Packet__dataOk_1.l0]
      rw [if_neg (show ¬ (i : Int) < (l.length : Int) by omega)]
    · rw [drop_all l i (by omega)]; rfl
  | succ d ih =>
    intro i hi k hk
    obtain ⟨k, rfl⟩ : ∃ m, k = m + 1 := ⟨k - 1, by omega⟩
    have hlt : i < l.length := by omega
    simp only [slices_IndexFunc_int_int__impl_Packet__dataOk_1.l0]
    rw [if_pos (show (i : Int) < (l.length : Int) by omega), if_pos (show (0 : Int) ≤ (i : Int) by omega), if_pos (show (i : Int) < (l.length : Int) by omega), rd_lt l i hlt, notWord_eq l[i]]
    simp only [Option.bind_some]
    by_cases hp : (fun x => !wordB x) l[i] = true
    · rw [if_pos hp]
      exact ⟨_, rfl, by rw [any_drop_yes l i hlt _ hp, decide_eq_true (by omega)]⟩
    · rw [if_neg hp, wrap_succ i (by omega)]
      obtain ⟨r, h1, h2⟩ := ih (i + 1) (by omega) k (by omega)
      exact ⟨r, h1, by rw [h2, any_drop_no l i hlt _ hp]⟩
theorem cWords_ev (l : List (Int)) (hl : l.length ≤ 1048576) (k : Nat) (hk : 0 + l.length < k) : slices_ContainsFunc_int_int__impl_Packet__dataOk_1.f k l = some (l.any (fun x => !wordB x)) := by
  obtain ⟨r, h1, h2⟩ := cWords_l0 l hl l.length 0 (by omega) k hk
  unfold slices_ContainsFunc_int_int__impl_Packet__dataOk_1.f slices_IndexFunc_int_int__impl_Packet__dataOk_1.f
  have c0 : ((0 : Nat) : Int) = 0 := rfl
  rw [c0] at h1
  rw [h1]
  simp only [Option.bind_some]
  rw [h2]; rfl
set_option maxHeartbeats 2000000 in
theorem sIsPacket_ev (K f t a n g s : Int) (l : List Int) (hl : l.length ≤ 1048576) (k : Nat) (hk : 1048580 < k) : spec_IsPacket.f k K f t a n g s l = some (pkB K f t a n g s l) := by
  obtain ⟨k, rfl⟩ : ∃ m, k = m + 1 := ⟨k - 1, by omega⟩
  unfold spec_IsPacket.f spec_IsId.f pkB
  rw [l01In_eq, sWords_ev l hl _ (by omega)]
  simp only [Option.bind_some, spec_IsPacket.j0, l01In_eq, spec_IsId.f, spec_l04Zero.f, Bool.false_eq_true, if_false, if_true, decide_eq_true_eq, Bool.not_eq_true']
  have hm : (0 : Int) ≤ (l.length : Int) ∧ (l.length : Int) ≤ 1048576 := by omega
  generalize (l.length : Int) = m at hm ⊢
  generalize l.all wordB = W
  by_cases hf : 0 ≤ f ∧ f ≤ 255
  case neg => rw [if_neg hf]; congr 1; symm; rw [decide_eq_false_iff_not]; unfold pkQ; exact fun h => hf h.1
  rw [if_pos hf]
  cases W
  case false => rw [if_pos rfl]; congr 1; symm; rw [decide_eq_false_iff_not]; unfold pkQ; simp
  rw [if_neg (by decide)]
  have w1 : wrap64 (65536 - m) = 65536 - m := wrap_id _ (by omega)
  rw [w1]
  by_cases k1 : K = 1
  · subst k1
    simp only [Int.reduceEq, if_true, if_false, Option.bind_some]
    all_goals repeat' (first | split | (simp only [Option.bind_some]; split))
    all_goals ((try simp only [Option.bind_some]); congr 1; rw [Bool.eq_iff_iff]; (try simp only [beq_iff_eq, decide_eq_true_eq, Bool.and_eq_true, Bool.false_eq_true]); unfold pkQ; (try unfold dataQ); (try simp only [eq_self, Bool.false_eq_true, true_and, false_and, and_false, false_iff, true_iff, iff_false, iff_true, not_false_eq_true, not_true_eq_false]); first | done | omega | ((try simp only [le_mn]); omega))
  by_cases k2 : K = 2
  · subst k2
    simp only [Int.reduceEq, if_true, if_false, Option.bind_some]
    all_goals repeat' (first | split | (simp only [Option.bind_some]; split))
    all_goals ((try simp only [Option.bind_some]); congr 1; rw [Bool.eq_iff_iff]; (try simp only [beq_iff_eq, decide_eq_true_eq, Bool.and_eq_true, Bool.false_eq_true]); unfold pkQ; (try unfold dataQ); (try simp only [eq_self, Bool.false_eq_true, true_and, false_and, and_false, false_iff, true_iff, iff_false, iff_true, not_false_eq_true, not_true_eq_false]); first | done | omega | ((try simp only [le_mn]); omega))
  by_cases k3 : K = 3
  · subst k3
    simp only [Int.reduceEq, if_true, if_false, Option.bind_some]
    by_cases hn : 1 ≤ n ∧ n ≤ 64
    · rw [wrap_id (65536 - n) (by omega)]
      repeat' (first | split | (simp only [Option.bind_some]; split))
      all_goals ((try simp only [Option.bind_some]); congr 1; rw [Bool.eq_iff_iff]; (try simp only [beq_iff_eq, decide_eq_true_eq, Bool.and_eq_true, Bool.false_eq_true]); unfold pkQ; (try unfold dataQ); (try simp only [eq_self, Bool.false_eq_true, true_and, false_and, and_false, false_iff, true_iff, iff_false, iff_true, not_false_eq_true, not_true_eq_false]); first | done | omega | ((try simp only [le_mn]); omega))
    simp only [hn, if_false]
    all_goals repeat' (first | split | (simp only [Option.bind_some]; split))
    all_goals ((try simp only [Option.bind_some]); congr 1; rw [Bool.eq_iff_iff]; (try simp only [beq_iff_eq, decide_eq_true_eq, Bool.and_eq_true, Bool.false_eq_true]); unfold pkQ; (try unfold dataQ); (try simp only [eq_self, Bool.false_eq_true, true_and, false_and, and_false, false_iff, true_iff, iff_false, iff_true, not_false_eq_true, not_true_eq_false]); first | done | omega | ((try simp only [le_mn]); omega))
  by_cases k4 : K = 4
  · subst k4
    simp only [Int.reduceEq, if_true, if_false, Option.bind_some]
    all_goals repeat' (first | split | (simp only [Option.bind_some]; split))
    all_goals ((try simp only [Option.bind_some]); congr 1; rw [Bool.eq_iff_iff]; (try simp only [beq_iff_eq, decide_eq_true_eq, Bool.and_eq_true, Bool.false_eq_true]); unfold pkQ; (try unfold dataQ); (try simp only [eq_self, Bool.false_eq_true, true_and, false_and, and_false, false_iff, true_iff, iff_false, iff_true, not_false_eq_true, not_true_eq_false]); first | done | omega | ((try simp only [le_mn]); omega))
  by_cases k5 : K = 5
  · subst k5
    simp only [Int.reduceEq, if_true, if_false, Option.bind_some]
    all_goals repeat' (first | split | (simp only [Option.bind_some]; split))
    all_goals ((try simp only [Option.bind_some]); congr 1; rw [Bool.eq_iff_iff]; (try simp only [beq_iff_eq, decide_eq_true_eq, Bool.and_eq_true, Bool.false_eq_true]); unfold pkQ; (try unfold dataQ); (try simp only [eq_self, Bool.false_eq_true, true_and, false_and, and_false, false_iff, true_iff, iff_false, iff_true, not_false_eq_true, not_true_eq_false]); first | done | omega | ((try simp only [le_mn]); omega))
  by_cases k6 : K = 6
  · subst k6
    simp only [Int.reduceEq, if_true, if_false, Option.bind_some]
    all_goals repeat' (first | split | (simp only [Option.bind_some]; split))
    all_goals ((try simp only [Option.bind_some]); congr 1; rw [Bool.eq_iff_iff]; (try simp only [beq_iff_eq, decide_eq_true_eq, Bool.and_eq_true, Bool.false_eq_true]); unfold pkQ; (try unfold dataQ); (try simp only [eq_self, Bool.false_eq_true, true_and, false_and, and_false, false_iff, true_iff, iff_false, iff_true, not_false_eq_true, not_true_eq_false]); first | done | omega | ((try simp only [le_mn]); omega))
  rw [if_neg k1, if_neg k2, if_neg k3, if_neg k4, if_neg k5, if_neg k6]
  ((try simp only [Option.bind_some]); congr 1; rw [Bool.eq_iff_iff]; (try simp only [beq_iff_eq, decide_eq_true_eq, Bool.and_eq_true, Bool.false_eq_true]); unfold pkQ; (try unfold dataQ); (try simp only [eq_self, Bool.false_eq_true, true_and, false_and, and_false, false_iff, true_iff, iff_false, iff_true, not_false_eq_true, not_true_eq_false]); first | done | omega | ((try simp only [le_mn]); omega))
theorem iDataOk_ev (K f t a n g s : Int) (l : List Int) (hl : l.length ≤ 1048576) (k : Nat) (hk : 1048580 < k) : impl_Packet_dataOk.f k K f t a n g s l = some (l.all wordB && decide (dataQ K n s (l.length : Int))) := by
  obtain ⟨k, rfl⟩ : ∃ m, k = m + 1 := ⟨k - 1, by omega⟩
  unfold impl_Packet_dataOk.f
  rw [cWords_ev l hl _ (by omega)]
  simp only [Option.bind_some, impl_Packet_dataOk.j0, within_eq, if_true]
  rw [← any_not l wordB]
  generalize (l.any fun x => !wordB x) = W
  generalize (l.length : Int) = m
  cases W
  all_goals simp only [Bool.false_eq_true, if_false, if_true, Bool.not_false, Bool.not_true, Bool.true_and, Bool.false_and, beq_iff_eq]
  all_goals repeat' split
  all_goals first | rfl | (congr 1; rw [Bool.eq_iff_iff]; simp only [beq_iff_eq, decide_eq_true_eq, Bool.false_eq_true, false_iff, true_iff]; unfold dataQ; omega)
set_option maxHeartbeats 2000000 in
theorem iIsPacket_ev (K f t a n g s : Int) (l : List Int) (hl : l.length ≤ 1048576) (k : Nat) (hk : 1048590 < k) : impl_IsPacket.f k K f t a n g s l = some (pkB K f t a n g s l) := by
  obtain ⟨k, rfl⟩ : ∃ m, k = m + 3 := ⟨k - 3, by omega⟩
  unfold impl_IsPacket.f impl_IsId.f impl_Packet_addressOk.f impl_Packet_lengthOk.f pkB
  simp only [Option.bind_some, within_eq, impl_IsPacket.j0, impl_IsPacket.j1, impl_IsPacket.j2, impl_Packet_addressOk.j0, impl_Packet_words.f, impl_IsId.f, iDataOk_ev K f t a n g s l hl _ (show 1048580 < k by omega), decide_eq_true_eq, Bool.not_eq_true', Bool.false_eq_true, if_false, if_true]
  have hm : (0 : Int) ≤ (l.length : Int) ∧ (l.length : Int) ≤ 1048576 := by omega
  generalize (l.length : Int) = m at hm ⊢
  generalize l.all wordB = W
  by_cases hf : 0 ≤ f ∧ f ≤ 255
  case neg =>
    simp only [hf, if_false, if_true, Bool.true_eq_false]
    have e : decide (pkQ K f t a n g s W m) = false := by rw [decide_eq_false_iff_not]; unfold pkQ; exact fun h => hf h.1
    rw [e]
    repeat' split
    all_goals rfl
  by_cases kk : 1 ≤ K ∧ K ≤ 6
  · have h6 : K = 1 ∨ K = 2 ∨ K = 3 ∨ K = 4 ∨ K = 5 ∨ K = 6 := by omega
    rcases h6 with rfl | rfl | rfl | rfl | rfl | rfl
    all_goals simp only [Int.reduceEq, Int.reduceLE, Int.reduceBEq, hf, if_true, if_false, Option.bind_some, and_true, true_and, and_false, false_and, Bool.true_eq_false, Bool.false_eq_true]
    all_goals cases W
    all_goals repeat' (first | (simp only [Option.bind_some, decide_eq_true_eq, Bool.false_eq_true, if_false, if_true, Bool.false_and, Bool.true_and]) | split)
    all_goals ((try simp only [Option.bind_some]); congr 1; rw [Bool.eq_iff_iff]; (try simp only [beq_iff_eq, decide_eq_true_eq, Bool.and_eq_true, Bool.false_eq_true]); unfold pkQ; (try unfold dataQ); (try simp only [eq_self, Bool.false_eq_true, true_and, false_and, and_false, false_iff, true_iff, iff_false, iff_true, not_false_eq_true, not_true_eq_false]); first | done | omega | ((try simp only [le_mn]); omega) | ((try simp only [wrap64, beq_eq_false_iff_ne, bne_iff_ne, beq_iff_eq, ne_eq, decide_eq_false_iff_not, Decidable.not_not, true_or, or_true, true_and, not_true_eq_false, not_false_eq_true, false_and, and_false, and_true, or_false, false_or, iff_false, iff_true, false_iff, true_iff, Int.reduceEq] at *); (try simp only [le_mn]); first | done | omega))
  simp only [show ¬ (1 ≤ K ∧ K ≤ 6) by omega, if_false, if_true]
  ((try simp only [Option.bind_some]); congr 1; rw [Bool.eq_iff_iff]; (try simp only [beq_iff_eq, decide_eq_true_eq, Bool.and_eq_true, Bool.false_eq_true]); unfold pkQ; (try unfold dataQ); (try simp only [eq_self, Bool.false_eq_true, true_and, false_and, and_false, false_iff, true_iff, iff_false, iff_true, not_false_eq_true, not_true_eq_false]); first | done | omega | ((try simp only [le_mn]); omega))
/-- The class of a packet: -1 where it is none. -/
def clI (K f t a n g s : Int) (l : List Int) : Int := if pkB K f t a n g s l = true then (if K = 1 then 0 else if K = 2 then 0 else if K = 6 then 2 else 1) else -1
theorem sClassOf_ev (K f t a n g s : Int) (l : List Int) (hl : l.length ≤ 1048576) (k : Nat) (hk : 1048590 < k) : spec_ClassOf.f k K f t a n g s l = some (clI K f t a n g s l) := by
  unfold spec_ClassOf.f clI
  rw [sIsPacket_ev K f t a n g s l hl k (by omega)]
  obtain ⟨k, rfl⟩ : ∃ m, k = m + 1 := ⟨k - 1, by omega⟩
  simp only [Option.bind_some, spec_ClassOf.j0, beq_iff_eq]
  cases pkB K f t a n g s l
  all_goals repeat' split
  all_goals first | rfl | (exfalso; omega) | simp_all
theorem iClassOf_ev (K f t a n g s : Int) (l : List Int) (hl : l.length ≤ 1048576) (k : Nat) (hk : 1048590 < k) : impl_ClassOf.f k K f t a n g s l = some (clI K f t a n g s l) := by
  unfold impl_ClassOf.f impl_classOf.f clI
  rw [iIsPacket_ev K f t a n g s l hl k (by omega)]
  obtain ⟨k, rfl⟩ : ∃ m, k = m + 1 := ⟨k - 1, by omega⟩
  simp only [Option.bind_some, impl_classOf.j0, beq_iff_eq]
  cases pkB K f t a n g s l
  all_goals repeat' split
  all_goals first | rfl | (exfalso; omega) | simp_all
theorem clI_yes (K f t a n g s : Int) (l : List Int) : pkB K f t a n g s l = true ↔ 0 ≤ clI K f t a n g s l := by
  unfold clI
  cases pkB K f t a n g s l
  · simp
  · simp
    repeat' split
    all_goals omega
def unI (K f t a n g s : Int) (l : List Int) : Int := if pkB K f t a n g s l = true then ((l.length : Int) + 3) / 4 else -1
theorem sUnits_ev (K f t a n g s : Int) (l : List Int) (hl : l.length ≤ 1048576) (k : Nat) (hk : 1048590 < k) : spec_PacketUnits.f k K f t a n g s l = some (unI K f t a n g s l) := by
  unfold spec_PacketUnits.f unI
  rw [sIsPacket_ev K f t a n g s l hl k (by omega)]
  simp only [Option.bind_some]
  rw [wrap_id ((l.length : Int) + 3) (by omega)]
  cases pkB K f t a n g s l
  · simp
  · simp; rw [Int.tdiv_eq_ediv_of_nonneg (by omega), wrap_id _ (by omega)]
theorem iUnits_ev (K f t a n g s : Int) (l : List Int) (hl : l.length ≤ 1048576) (k : Nat) (hk : 1048590 < k) : impl_PacketUnits.f k K f t a n g s l = some (unI K f t a n g s l) := by
  unfold impl_PacketUnits.f unI
  rw [iIsPacket_ev K f t a n g s l hl k (by omega)]
  simp only [Option.bind_some]
  rw [wrap_id ((l.length : Int) + 3) (by omega)]
  cases pkB K f t a n g s l
  · simp
  · simp; rw [Int.tdiv_eq_ediv_of_nonneg (by omega), wrap_id _ (by omega)]
theorem szIntS_eq (l : List Int) (left : Int) (h0 : 0 ≤ left) (h1 : left ≤ 1048576) (hl : l.length ≤ 9223372036854775807) : laws_szIntS.f l left = some (if left < l.length then -1 else left - l.length) := by
  unfold laws_szIntS.f
  rw [wrap_id _ (by omega)]
  by_cases h : left < l.length
  · rw [if_pos (by omega), if_pos h]
  · rw [if_neg (by omega), if_neg h]
/-- What is left behind a pair of credits: less than nothing, or the room that both take. -/
theorem szCredits_eq (a b : List Int) (left : Int) (h0 : 0 ≤ left) (h1 : left ≤ 1048576) (ha : a.length ≤ 9223372036854775807) (hb : b.length ≤ 9223372036854775807) :
    ∃ r, laws_szCredits.f a b left = some r ∧ (0 ≤ r → r = left - a.length - b.length) := by
  unfold laws_szCredits.f
  rw [szIntS_eq a left h0 h1 ha]
  simp only [Option.bind_some]
  by_cases hx : left < a.length
  · rw [if_pos hx, if_pos (by omega)]
    exact ⟨_, rfl, fun h => by omega⟩
  · rw [if_neg hx, if_neg (by omega), szIntS_eq b _ (by omega) (by omega) hb]
    simp only [Option.bind_some]
    by_cases hy : left - a.length < b.length
    · rw [if_pos hy, if_pos (by omega)]
      exact ⟨_, rfl, fun h => by omega⟩
    · rw [if_neg hy, if_neg (by omega)]
      exact ⟨_, rfl, fun _ => rfl⟩
theorem toIntS_l0 (l : List Int) (hb : l.length ≤ 1048576) (d : Nat) : ∀ (x : List Int) (i : Nat), x.length = l.length → x.take i = l.take i → i + d = l.length → ∀ k, d < k → laws_toIntS.l0 k l x (i : Int) = some l := by
  induction d with
  | zero =>
    intro x i hx ht hi k hk
    obtain ⟨k, rfl⟩ : ∃ m, k = m + 1 := ⟨k - 1, by omega⟩
    simp only [laws_toIntS.l0]
    rw [if_neg (show ¬ (i : Int) < (l.length : Int) by omega), fill_end x l i hx (by omega) ht]
  | succ d ih =>
    intro x i hx ht hi k hk
    obtain ⟨k, rfl⟩ : ∃ m, k = m + 1 := ⟨k - 1, by omega⟩
    simp only [laws_toIntS.l0]
    rw [if_pos (show (i : Int) < (l.length : Int) by omega), if_pos (show (0 : Int) ≤ (i : Int) by omega), if_pos (show (i : Int) < (x.length : Int) by omega), wrap_succ i (by omega), toNat_nat, rd_lt l i (by omega)]
    exact ih _ (i + 1) (by simp [hx]) (fill_step x l i _ (by omega) (by omega) ht rfl) (by omega) k (by omega)
theorem toIntS_ev (l : List Int) (hb : l.length ≤ 1048576) : ∀ k, l.length < k → laws_toIntS.f k l = some l := by
  intro k hk
  unfold laws_toIntS.f
  rw [if_pos (by omega), if_pos (by omega)]
  exact toIntS_l0 l hb l.length _ 0 (by simp) (by simp) (by omega) k hk
theorem eqIntS_l0 (a b : List Int) (hl : a.length = b.length) (hb : a.length < 9223372036854775807) (d : Nat) : ∀ (i : Nat), i + d = a.length → ∀ k, d < k → laws_eqIntS.l0 k a b (i : Int) = some (decide (a.drop i = b.drop i)) := by
  induction d with
  | zero =>
    intro i hi k hk
    obtain ⟨k, rfl⟩ : ∃ m, k = m + 1 := ⟨k - 1, by omega⟩
    simp only [laws_eqIntS.l0]
    rw [if_neg (show ¬ (i : Int) < (a.length : Int) by omega), drop_all a i (by omega), drop_all b i (by omega)]
    simp
  | succ d ih =>
    intro i hi k hk
    obtain ⟨k, rfl⟩ : ∃ m, k = m + 1 := ⟨k - 1, by omega⟩
    simp only [laws_eqIntS.l0]
    rw [if_pos (show (i : Int) < (a.length : Int) by omega), if_pos (show (0 : Int) ≤ (i : Int) by omega), if_pos (show (i : Int) < (b.length : Int) by omega)]
    by_cases he : rd a (i : Int) = rd b (i : Int)
    · rw [if_pos he, wrap_succ i (by omega), ih (i + 1) (by omega) k (by omega)]
      congr 1
      rw [decide_eq_decide, drop_eq_iff a b i (by omega) (by omega)]
      exact ⟨fun h => ⟨he, h⟩, fun h => h.2⟩
    · rw [if_neg he]
      congr 1
      symm
      rw [decide_eq_false_iff_not, drop_eq_iff a b i (by omega) (by omega)]
      exact fun h => he h.1
theorem eqIntS_ev (a b : List Int) (hb : a.length < 9223372036854775807) : ∀ k, a.length < k → laws_eqIntS.f k a b = some (decide (a = b)) := by
  intro k hk
  unfold laws_eqIntS.f
  by_cases hl : a.length = b.length
  · rw [if_pos (by omega)]
    exact eqIntS_l0 a b hl hb a.length 0 (by omega) k hk
  · rw [if_neg (by omega), decide_eq_false (fun h => hl (by rw [h]))]
def credB (x : Int) : Bool := decide (0 ≤ x ∧ x ≤ 30)
def areCr (l : List Int) : Bool := decide (l.length = 3) && l.all credB
def crB (a b : List Int) : Bool := areCr a && areCr b
theorem notCred_eq (x : Int) : impl_areCredits_1.f x = some (!credB x) := by
  unfold impl_areCredits_1.f
  rw [within_eq]
  rfl
theorem cCred_l0 (l : List (Int)) (hl : l.length ≤ 1048576) (d : Nat) : ∀ i : Nat, i + d = l.length → ∀ k, 0 + d < k → ∃ r, slices_IndexFunc_int_int__impl_areCredits_1.l0 k l (l.length : Int) (i : Int) = some r ∧ decide (r ≥ 0) = (l.drop i).any (fun x => !credB x) := by
  induction d with
  | zero =>
    intro i hi k hk
    obtain ⟨k, rfl⟩ : ∃ m, k = m + 1 := ⟨k - 1, by omega⟩
    refine ⟨-1, ?_, ?_⟩
    · simp only [slices_IndexFunc_int_int__impl_areCredits_1.l0]
      rw [if_neg (show ¬ (i : Int) < (l.length : Int) by omega)]
    · rw [drop_all l i (by omega)]; rfl
  | succ d ih =>
    intro i hi k hk
    obtain ⟨k, rfl⟩ : ∃ m, k = m + 1 := ⟨k - 1, by omega⟩
    have hlt : i < l.length := by omega
    simp only [slices_IndexFunc_int_int__impl_areCredits_1.l0]
    rw [if_pos (show (i : Int) < (l.length : Int) by omega), if_pos (show (0 : Int) ≤ (i : Int) by omega), if_pos (show (i : Int) < (l.length : Int) by omega), rd_lt l i hlt, notCred_eq l[i]]
    simp only [Option.bind_some]
    by_cases hp : (fun x => !credB x) l[i] = true
    · rw [if_pos hp]
      exact ⟨_, rfl, by rw [any_drop_yes l i hlt _ hp, decide_eq_true (by omega)]⟩
    · rw [if_neg hp, wrap_succ i (by omega)]
      obtain ⟨r, h1, h2⟩ := ih (i + 1) (by omega) k (by omega)
      exact ⟨r, h1, by rw [h2, any_drop_no l i hlt _ hp]⟩
theorem cCred_ev (l : List (Int)) (hl : l.length ≤ 1048576) (k : Nat) (hk : 0 + l.length < k) : slices_ContainsFunc_int_int__impl_areCredits_1.f k l = some (l.any (fun x => !credB x)) := by
  obtain ⟨r, h1, h2⟩ := cCred_l0 l hl l.length 0 (by omega) k hk
  unfold slices_ContainsFunc_int_int__impl_areCredits_1.f slices_IndexFunc_int_int__impl_areCredits_1.f
  have c0 : ((0 : Nat) : Int) = 0 := rfl
  rw [c0] at h1
  rw [h1]
  simp only [Option.bind_some]
  rw [h2]; rfl
theorem iAreCredits_ev (l : List Int) (k : Nat) (hk : 3 < k) : impl_areCredits.f k l = some (areCr l) := by
  unfold impl_areCredits.f areCr
  by_cases h : (l.length : Int) = 3
  · rw [if_pos h, cCred_ev l (by omega) k (by omega)]
    simp only [Option.bind_some]
    rw [any_not, decide_eq_true (show l.length = 3 by omega), Bool.true_and]
  · rw [if_neg h, decide_eq_false (show ¬ l.length = 3 by omega), Bool.false_and]
theorem iCreditsOk_ev (a b : List Int) (k : Nat) (hk : 3 < k) : impl_CreditsOk.f k a b = some (crB a b) := by
  unfold impl_CreditsOk.f crB
  rw [iAreCredits_ev a k hk, iAreCredits_ev b k hk]
  cases areCr a <;> simp
theorem three {l : List Int} (h : l.length = 3) : ∃ x y z, l = [x, y, z] := by
  match l, h with
  | [x, y, z], _ => exact ⟨x, y, z, rfl⟩
theorem sCreditsOk_ev (a b : List Int) (k : Nat) (hk : 5 < k) : spec_CreditsOk.f k a b = some (crB a b) := by
  obtain ⟨k, rfl⟩ : ∃ m, k = m + 5 := ⟨k - 5, by omega⟩
  unfold spec_CreditsOk.f crB areCr
  by_cases ha : a.length = 3
  · by_cases hb : b.length = 3
    · obtain ⟨x, y, z, rfl⟩ := three ha
      obtain ⟨u, v, w, rfl⟩ := three hb
      have r0 : ∀ p q r : Int, rd [p, q, r] 0 = p := fun _ _ _ => rfl
      have r1 : ∀ p q r : Int, rd [p, q, r] 1 = q := fun _ _ _ => rfl
      have r2 : ∀ p q r : Int, rd [p, q, r] 2 = r := fun _ _ _ => rfl
      have w0 : wrap64 (0 + 1) = 1 := by rw [wrap_id _ (by omega)]; rfl
      have w1 : wrap64 (1 + 1) = 2 := by rw [wrap_id _ (by omega)]; rfl
      have w2 : wrap64 (2 + 1) = 3 := by rw [wrap_id _ (by omega)]; rfl
      have e : ∀ t : Int, spec_l01In.f t 0 30 = some (credB t) := fun t => l01In_eq _ _ _
      simp only [spec_CreditsOk.j0, spec_CreditsOk.l0, r0, r1, r2, w0, w1, w2, e, Option.bind_some, List.length_cons, List.length_nil, List.all_cons, List.all_nil]
      cases credB x <;> cases credB y <;> cases credB z <;> cases credB u <;> cases credB v <;> cases credB w <;> simp
    · rw [if_pos (by omega), decide_eq_false hb]
      simp only [spec_CreditsOk.j0]
      rw [if_pos (by simp; omega)]
      simp
  · rw [if_neg (by omega), decide_eq_false ha]
    simp [spec_CreditsOk.j0]
theorem toCredits_ev (a b : List Int) (ha : a.length ≤ 1048576) (hb : b.length ≤ 1048576) (k : Nat) (hk : 1048576 < k) : laws_toCredits.f k a b = some (a, b) := by
  unfold laws_toCredits.f
  rw [toIntS_ev a ha k (by omega), toIntS_ev b hb k (by omega)]
  rfl
theorem eqCredits_ev (a b : List Int) (ha : a.length ≤ 1048576) (hb : b.length ≤ 1048576) (k : Nat) (hk : 1048576 < k) : laws_eqCredits.f k a b a b = some true := by
  unfold laws_eqCredits.f
  rw [eqIntS_ev a a (by omega) k (by omega), eqIntS_ev b b (by omega) k (by omega)]
  simp
theorem toPacket_ev (K f t a n g s : Int) (l : List Int) (hl : l.length ≤ 1048576) (k : Nat) (hk : 1048577 < k) : laws_toPacket.f k K f t a n g s l = some (K, f, t, a, n, g, s, l) := by
  unfold laws_toPacket.f
  rw [toIntS_ev l hl k (by omega)]
  rfl
theorem eqPacket_ev (K f t a n g s : Int) (l : List Int) (hl : l.length ≤ 1048576) (k : Nat) (hk : 1048577 < k) : laws_eqPacket.f k K f t a n g s l K f t a n g s l = some true := by
  unfold laws_eqPacket.f
  rw [if_pos rfl, if_pos rfl, if_pos rfl, if_pos rfl, if_pos rfl, if_pos rfl, if_pos rfl, eqIntS_ev l l (by omega) k (by omega)]
  simp
theorem szPacket_eq (K f t a n g s : Int) (l : List Int) (left : Int) (h0 : 0 ≤ left) (h1 : left ≤ 1048576) (hl : l.length ≤ 9223372036854775807) : ∃ r, laws_szPacket.f K f t a n g s l left = some r ∧ r ≤ left ∧ (0 ≤ r → r = left - l.length) := by
  unfold laws_szPacket.f
  rw [szIntS_eq l left h0 h1 hl]
  simp only [Option.bind_some]
  by_cases hx : left < l.length
  · rw [if_pos hx, if_pos (by omega)]
    exact ⟨_, rfl, by omega, fun h => by omega⟩
  · rw [if_neg hx, if_neg (by omega)]
    exact ⟨_, rfl, by omega, fun h => rfl⟩
/-- The numbers s, s + 1, .. -/
def markL (n : Nat) (s : Int) : List Int := (List.range n).map fun (i : Nat) => s + (i : Int)
theorem markL_length (n : Nat) (s : Int) : (markL n s).length = n := by simp [markL]
theorem markL_get (n : Nat) (s : Int) (i : Nat) (h : i < (markL n s).length) : (markL n s)[i] = s + (i : Int) := by simp [markL]
theorem markIntS_l0 (n : Nat) (s : Int) (hn : n ≤ 1048576) (h0 : 0 ≤ s) (h1 : s ≤ 1000000000000) (d : Nat) : ∀ (x : List Int) (i : Nat), x.length = n → x.take i = (markL n s).take i → i + d = n → ∀ k, d < k → laws_markIntS.l0 k x (s + (i : Int)) (i : Int) = some (s + (n : Int), markL n s) := by
  induction d with
  | zero =>
    intro x i hx ht hi k hk
    obtain ⟨k, rfl⟩ : ∃ m, k = m + 1 := ⟨k - 1, by omega⟩
    simp only [laws_markIntS.l0]
    have hlen := markL_length n s
    rw [if_neg (show ¬ (i : Int) < (x.length : Int) by omega), fill_end x (markL n s) i (by omega) (by omega) ht, show i = n by omega]
  | succ d ih =>
    intro x i hx ht hi k hk
    obtain ⟨k, rfl⟩ : ∃ m, k = m + 1 := ⟨k - 1, by omega⟩
    have hlen := markL_length n s
    simp only [laws_markIntS.l0]
    rw [if_pos (show (i : Int) < (x.length : Int) by omega), if_pos (show (0 : Int) ≤ (i : Int) by omega), wrap_succ i (by omega), toNat_nat, wrap_id (s + (i : Int) + 1) (by omega)]
    have e : s + (i : Int) + 1 = s + ((i + 1 : Nat) : Int) := by omega
    rw [e]
    exact ih _ (i + 1) (by simp [hx]) (fill_step x (markL n s) i _ (by omega) (by omega) ht (markL_get n s i (by omega)).symm) (by omega) k (by omega)
theorem markIntS_ev (l : List Int) (s : Int) (hn : l.length ≤ 1048576) (h0 : 0 ≤ s) (h1 : s ≤ 1000000000000) (k : Nat) (hk : l.length < k) : laws_markIntS.f k l s = some (s + (l.length : Int), markL l.length s) := by
  unfold laws_markIntS.f
  have h := markIntS_l0 l.length s hn h0 h1 l.length l 0 rfl (by simp) (by omega) k hk
  simpa using h
theorem heldIntS_l0 (n : Nat) (s : Int) (hn : n ≤ 1048576) (h0 : 0 ≤ s) (h1 : s ≤ 1000000000000) (d : Nat) : ∀ (i : Nat), i + d = n → ∀ k, d < k → laws_heldIntS.l0 k (markL n s) (s + (i : Int)) (i : Int) = some (s + (n : Int)) := by
  have hlen := markL_length n s
  induction d with
  | zero =>
    intro i hi k hk
    obtain ⟨k, rfl⟩ : ∃ m, k = m + 1 := ⟨k - 1, by omega⟩
    simp only [laws_heldIntS.l0]
    rw [if_neg (show ¬ (i : Int) < ((markL n s).length : Int) by omega), show i = n by omega]
  | succ d ih =>
    intro i hi k hk
    obtain ⟨k, rfl⟩ : ∃ m, k = m + 1 := ⟨k - 1, by omega⟩
    simp only [laws_heldIntS.l0]
    rw [if_pos (show (i : Int) < ((markL n s).length : Int) by omega), if_pos (show (0 : Int) ≤ (i : Int) by omega), rd_lt _ i (by omega), markL_get n s i (by omega), if_pos rfl, wrap_succ i (by omega), wrap_id (s + (i : Int) + 1) (by omega)]
    have e : s + (i : Int) + 1 = s + ((i + 1 : Nat) : Int) := by omega
    rw [e]
    exact ih (i + 1) (by omega) k (by omega)
theorem heldIntS_ev (n : Nat) (s : Int) (hn : n ≤ 1048576) (h0 : 0 ≤ s) (h1 : s ≤ 1000000000000) (k : Nat) (hk : n < k) : laws_heldIntS.f k (markL n s) s = some (s + (n : Int)) := by
  unfold laws_heldIntS.f
  have h := heldIntS_l0 n s hn h0 h1 n 0 (by omega) k hk
  simpa using h
theorem cl_range (K f t a n g s : Int) (l : List Int) : -1 ≤ clI K f t a n g s l ∧ clI K f t a n g s l ≤ 2 := by
  unfold clI
  repeat' split
  all_goals omega
theorem crB_len {a b : List Int} (h : crB a b = true) : a.length = 3 ∧ b.length = 3 := by
  unfold crB areCr at h
  simp only [Bool.and_eq_true, decide_eq_true_eq] at h
  exact ⟨h.1.1, h.2.1⟩
/-- Whether credits and a packet allow to send. -/
def sendB (x y : List Int) (K f t a n g s : Int) (l : List Int) : Bool := if crB x y = true then if pkB K f t a n g s l = true then if 1 ≤ rd x (clI K f t a n g s l) then decide (unI K f t a n g s l ≤ rd y (clI K f t a n g s l)) else false else false else false
theorem sCanSend_ev (x y : List Int) (K f t a n g s : Int) (l : List Int) (hl : l.length ≤ 1048576) (k : Nat) (hk : 1048590 < k) : spec_CanSend.f k x y K f t a n g s l = some (sendB x y K f t a n g s l) := by
  unfold spec_CanSend.f sendB
  rw [sClassOf_ev K f t a n g s l hl k hk, sCreditsOk_ev x y k (by omega)]
  simp only [Option.bind_some]
  by_cases hc : crB x y = true
  · obtain ⟨h1, h2⟩ := crB_len hc
    rw [if_pos hc, if_pos hc]
    have hr := cl_range K f t a n g s l
    have hy := clI_yes K f t a n g s l
    by_cases hp : pkB K f t a n g s l = true
    · have h0 := hy.1 hp
      rw [if_pos hp, if_pos (by omega), if_pos h0, if_pos (by omega)]
      by_cases hq : 1 ≤ rd x (clI K f t a n g s l)
      · rw [if_pos hq, if_pos (by omega), if_pos (by omega), sUnits_ev K f t a n g s l hl k hk]
        rfl
      · rw [if_neg hq, if_neg (by omega)]
    · rw [if_neg hp, if_neg (fun h => hp (hy.2 h))]
  · rw [if_neg hc, if_neg hc]
theorem iCanSend_ev (x y : List Int) (K f t a n g s : Int) (l : List Int) (hl : l.length ≤ 1048576) (k : Nat) (hk : 1048600 < k) : impl_CanSend.f k x y K f t a n g s l = some (sendB x y K f t a n g s l) := by
  obtain ⟨k, rfl⟩ : ∃ m, k = m + 1 := ⟨k - 1, by omega⟩
  unfold impl_CanSend.f sendB
  rw [iCreditsOk_ev x y _ (by omega), iIsPacket_ev K f t a n g s l hl _ (by omega)]
  simp only [Option.bind_some, impl_CanSend.j0]
  rw [iClassOf_ev K f t a n g s l hl _ (by omega)]
  simp only [Option.bind_some]
  by_cases hc : crB x y = true
  · obtain ⟨h1, h2⟩ := crB_len hc
    rw [if_pos hc, if_pos hc]
    have hr := cl_range K f t a n g s l
    have hy := clI_yes K f t a n g s l
    by_cases hp : pkB K f t a n g s l = true
    · have h0 := hy.1 hp
      rw [hp, if_neg (by decide), if_pos rfl, if_pos h0, if_pos (by omega)]
      by_cases hq : 1 ≤ rd x (clI K f t a n g s l)
      · rw [if_pos hq, if_pos (by omega), if_pos (by omega), iUnits_ev K f t a n g s l hl _ (by omega)]
        rfl
      · rw [if_neg hq, if_neg (by omega)]
    · rw [Bool.eq_false_iff.mpr hp]
      simp
  · rw [if_neg hc, if_neg hc]
    simp
theorem clone_ev (l : List Int) (hl : l.length ≤ 1048580) : slices_Clone_int_int.f l = some l := by
  unfold slices_Clone_int_int.f
  simp only [Option.bind_some, List.nil_append, List.length_nil]
  rw [if_pos (by omega)]
theorem copy_ev (x y : List Int) (hx : x.length ≤ 1048576) (hy : y.length ≤ 1048576) : impl_copyCredits.f x y = some (x, y) := by
  unfold impl_copyCredits.f
  rw [clone_ev x (by omega), clone_ev y (by omega)]
  rfl
theorem crB_parts {x y : List Int} (h : crB x y = true) : (x.length = 3 ∧ ∀ z ∈ x, 0 ≤ z ∧ z ≤ 30) ∧ (y.length = 3 ∧ ∀ z ∈ y, 0 ≤ z ∧ z ≤ 30) := by
  unfold crB areCr at h
  simp only [Bool.and_eq_true, decide_eq_true_eq] at h
  exact ⟨⟨h.1.1, fun z hz => of_decide_eq_true (List.all_eq_true.mp h.1.2 z hz)⟩, ⟨h.2.1, fun z hz => of_decide_eq_true (List.all_eq_true.mp h.2.2 z hz)⟩⟩
theorem rd_mem3 {x : List Int} (hx : x.length = 3) (i : Int) (h : 0 ≤ i ∧ i ≤ 2) : rd x i ∈ x := by
  obtain ⟨n, rfl⟩ := Int.eq_ofNat_of_zero_le h.1
  rw [rd_lt x n (by omega)]
  exact List.getElem_mem _
theorem un_range (K f t a n g s : Int) (l : List Int) (h : pkB K f t a n g s l = true) : 0 ≤ unI K f t a n g s l ∧ unI K f t a n g s l ≤ 5 := by
  have hq : pkQ K f t a n g s (l.all wordB) (l.length : Int) := of_decide_eq_true h
  unfold pkQ at hq
  have hq := hq.2.2
  unfold unI
  rw [if_pos h]
  omega
theorem sendB_yes (x y : List Int) (K f t a n g s : Int) (l : List Int) (h : sendB x y K f t a n g s l = true) : crB x y = true ∧ pkB K f t a n g s l = true ∧ 1 ≤ rd x (clI K f t a n g s l) ∧ unI K f t a n g s l ≤ rd y (clI K f t a n g s l) := by
  unfold sendB at h
  by_cases h1 : crB x y = true
  · rw [if_pos h1] at h
    by_cases h2 : pkB K f t a n g s l = true
    · rw [if_pos h2] at h
      by_cases h3 : 1 ≤ rd x (clI K f t a n g s l)
      · rw [if_pos h3] at h
        exact ⟨h1, h2, h3, of_decide_eq_true h⟩
      · rw [if_neg h3] at h; cases h
    · rw [if_neg h2] at h; cases h
  · rw [if_neg h1] at h; cases h
def spR (x y : List Int) (K f t a n g s : Int) (l : List Int) : List Int × List Int × Bool := if sendB x y K f t a n g s l = true then (x.set (clI K f t a n g s l).toNat (rd x (clI K f t a n g s l) - 1), y.set (clI K f t a n g s l).toNat (rd y (clI K f t a n g s l) - unI K f t a n g s l), true) else (x, y, false)
theorem iSpend_ev (x y : List Int) (K f t a n g s : Int) (l : List Int) (hx : x.length ≤ 1048576) (hy : y.length ≤ 1048576) (hl : l.length ≤ 1048576) (k : Nat) (hk : 1048600 < k) : impl_SpendCredits.f k x y K f t a n g s l = some (spR x y K f t a n g s l) := by
  unfold impl_SpendCredits.f spR
  rw [copy_ev x y hx hy]
  simp only [Option.bind_some]
  rw [iCanSend_ev x y K f t a n g s l hl k hk]
  simp only [Option.bind_some]
  by_cases h : sendB x y K f t a n g s l = true
  · obtain ⟨h1, h2, h3, h4⟩ := sendB_yes x y K f t a n g s l h
    obtain ⟨⟨g1, g2⟩, g3, g4⟩ := crB_parts h1
    have hr := cl_range K f t a n g s l
    have h0 := (clI_yes K f t a n g s l).1 h2
    have hu := un_range K f t a n g s l h2
    have q1 := g2 _ (rd_mem3 g1 (clI K f t a n g s l) (by omega))
    have q2 := g4 _ (rd_mem3 g3 (clI K f t a n g s l) (by omega))
    rw [if_pos h, if_pos h, iClassOf_ev K f t a n g s l hl k (by omega)]
    simp only [Option.bind_some]
    rw [if_pos h0, if_pos (by omega), if_pos (by omega), iUnits_ev K f t a n g s l hl k (by omega)]
    simp only [Option.bind_some]
    rw [wrap_id _ (by omega), wrap_id _ (by omega)]
  · rw [if_neg h, if_neg h]
theorem scopy_ev (x y : List Int) (hx : x.length ≤ 1048576) (hy : y.length ≤ 1048576) : spec_l14Copy.f x y = some (x, y) := by
  unfold spec_l14Copy.f
  simp only [Option.bind_some, List.nil_append, List.length_nil]
  rw [if_pos (by omega), if_pos (by omega)]
theorem sSpend_ev (x y : List Int) (K f t a n g s : Int) (l : List Int) (hx : x.length ≤ 1048576) (hy : y.length ≤ 1048576) (hl : l.length ≤ 1048576) (k : Nat) (hk : 1048600 < k) : spec_SpendCredits.f k x y K f t a n g s l = some (spR x y K f t a n g s l) := by
  unfold spec_SpendCredits.f spR
  rw [scopy_ev x y hx hy]
  simp only [Option.bind_some]
  rw [sCanSend_ev x y K f t a n g s l hl k (by omega)]
  simp only [Option.bind_some]
  by_cases h : sendB x y K f t a n g s l = true
  · obtain ⟨h1, h2, h3, h4⟩ := sendB_yes x y K f t a n g s l h
    obtain ⟨⟨g1, g2⟩, g3, g4⟩ := crB_parts h1
    have hr := cl_range K f t a n g s l
    have h0 := (clI_yes K f t a n g s l).1 h2
    have hu := un_range K f t a n g s l h2
    have q1 := g2 _ (rd_mem3 g1 (clI K f t a n g s l) (by omega))
    have q2 := g4 _ (rd_mem3 g3 (clI K f t a n g s l) (by omega))
    rw [if_pos h, if_pos h, sClassOf_ev K f t a n g s l hl k (by omega)]
    simp only [Option.bind_some]
    rw [if_pos h0, if_pos (by omega), if_pos (by omega), sUnits_ev K f t a n g s l hl k (by omega)]
    simp only [Option.bind_some]
    rw [wrap_id _ (by omega), wrap_id _ (by omega)]
  · rw [if_neg h, if_neg h]
theorem res_len (x y : List Int) (K f t a n g s : Int) (l : List Int) : (spR x y K f t a n g s l).1.length = x.length ∧ (spR x y K f t a n g s l).2.1.length = y.length := by
  unfold spR
  split <;> simp
theorem markCr_ev (x y : List Int) (hx : x.length ≤ 1048576) (hy : y.length ≤ 1048576) (k : Nat) (hk : 1048600 < k) : laws_markCredits.f k x y 1 = some (1 + (x.length : Int) + (y.length : Int), markL x.length 1, markL y.length (1 + (x.length : Int))) := by
  unfold laws_markCredits.f
  rw [markIntS_ev x 1 hx (by omega) (by omega) k (by omega)]
  simp only [Option.bind_some]
  rw [markIntS_ev y _ hy (by omega) (by omega) k (by omega)]
  rfl
theorem heldCr_ev (x y : List Int) (hx : x.length ≤ 1048576) (hy : y.length ≤ 1048576) (k : Nat) (hk : 1048600 < k) : laws_heldCredits.f k (markL x.length 1) (markL y.length (1 + (x.length : Int))) 1 = some (1 + (x.length : Int) + (y.length : Int)) := by
  unfold laws_heldCredits.f
  rw [heldIntS_ev x.length 1 hx (by omega) (by omega) k (by omega)]
  simp only [Option.bind_some]
  rw [if_neg (by omega), heldIntS_ev y.length _ hy (by omega) (by omega) k (by omega)]
  simp only [Option.bind_some]
  rw [if_neg (by omega)]
theorem FnExactSpendCredits : laws_FnExactSpendCredits.Pure := by
  intro x y K f t a n g s l ⟨hxm, _⟩ ⟨hym, _⟩ _ _ _ _ _ _ _ ⟨hlm, _⟩
  obtain ⟨r, e0, hr⟩ := szCredits_eq x y 1048576 (by omega) (by omega) hxm hym
  by_cases h0 : r < 0
  · exact ⟨1, by unfold laws_FnExactSpendCredits.f; rw [e0]; simp only [Option.bind_some]; rw [if_pos h0]⟩
  have hr := hr (by omega)
  obtain ⟨q, e1, hq1, hq2⟩ := szPacket_eq K f t a n g s l r (by omega) (by omega) hlm
  by_cases h1 : q < 0
  · exact ⟨1, by unfold laws_FnExactSpendCredits.f; rw [e0]; simp only [Option.bind_some]; rw [if_neg h0, e1]; simp only [Option.bind_some]; rw [if_pos h1]⟩
  have hq2 := hq2 (by omega)
  have hx : x.length ≤ 1048576 := by omega
  have hy : y.length ≤ 1048576 := by omega
  have hl : l.length ≤ 1048576 := by omega
  obtain ⟨u, v, ok, hR⟩ : ∃ u v ok, spR x y K f t a n g s l = (u, v, ok) := ⟨_, _, _, rfl⟩
  have hlen := res_len x y K f t a n g s l
  rw [hR] at hlen
  have hu : u.length ≤ 1048576 := by have := hlen.1; simp only at this; omega
  have hv : v.length ≤ 1048576 := by have := hlen.2; simp only at this; omega
  have hs : ∀ k, 1048700 < k → spec_SpendCredits.f k x y K f t a n g s l = some (u, v, ok) := fun k h => by rw [sSpend_ev x y K f t a n g s l hx hy hl k (by omega), hR]
  have hi : ∀ k, 1048700 < k → impl_SpendCredits.f k x y K f t a n g s l = some (u, v, ok) := fun k h => by rw [iSpend_ev x y K f t a n g s l hx hy hl k (by omega), hR]
  have hto : ∀ k, 1048700 < k → laws_toCredits.f k x y = some (x, y) := fun k h => toCredits_ev x y hx hy k (by omega)
  have htp : ∀ k, 1048700 < k → laws_toPacket.f k K f t a n g s l = some (K, f, t, a, n, g, s, l) := fun k h => toPacket_ev K f t a n g s l hl k (by omega)
  have hec : ∀ k, 1048700 < k → laws_eqCredits.f k u v u v = some true := fun k h => eqCredits_ev u v hu hv k (by omega)
  have hexy : ∀ k, 1048700 < k → laws_eqCredits.f k x y x y = some true := fun k h => eqCredits_ev x y hx hy k (by omega)
  have hep : ∀ k, 1048700 < k → laws_eqPacket.f k K f t a n g s l K f t a n g s l = some true := fun k h => eqPacket_ev K f t a n g s l hl k (by omega)
  have hne : (ok != ok) = false := by cases ok <;> rfl
  refine ⟨1048800, ?_⟩
  unfold laws_FnExactSpendCredits.f
  rw [e0]
  simp only [Option.bind_some]
  rw [if_neg h0, e1]
  simp only [Option.bind_some]
  rw [if_neg h1, hto _ (by omega)]
  simp only [Option.bind_some]
  rw [htp _ (by omega)]
  simp only [Option.bind_some]
  rw [hs _ (by omega)]
  simp only [Option.bind_some]
  rw [hi _ (by omega)]
  simp only [Option.bind_some]
  rw [hec _ (by omega)]
  simp only [Option.bind_some, if_true, hne, laws_FnExactSpendCredits.j0, Bool.false_eq_true, if_false]
  rw [hto _ (by omega)]
  simp only [Option.bind_some]
  rw [hexy _ (by omega)]
  simp only [Option.bind_some, if_true]
  rw [htp _ (by omega)]
  simp only [Option.bind_some]
  rw [hep _ (by omega)]
  simp only [Option.bind_some, if_true]
  rw [markCr_ev x y hx hy _ (by omega)]
  simp only [Option.bind_some]
  unfold laws_markPacket.f
  rw [markIntS_ev l _ hl (by omega) (by omega) _ (by omega)]
  simp only [Option.bind_some]
  rw [if_neg (by omega), hec _ (by omega)]
  simp only [Option.bind_some, if_true, hne, laws_FnExactSpendCredits.j1, Bool.false_eq_true, if_false]
  rw [markCr_ev u v hu hv _ (by omega)]
  simp only [Option.bind_some]
  rw [heldCr_ev u v hu hv _ (by omega)]
  simp only [Option.bind_some, if_true]
  rw [if_neg (by omega), hto _ (by omega)]
  simp only [Option.bind_some]
  rw [htp _ (by omega)]
  simp only [Option.bind_some]
  rw [hi _ (by omega)]
  simp only [Option.bind_some]
  rw [hec _ (by omega)]
  simp only [Option.bind_some, if_true, hne, laws_FnExactSpendCredits.j2, Bool.false_eq_true, if_false]
  rw [heldCr_ev u v hu hv _ (by omega)]
  simp only [Option.bind_some, if_true]
  rw [if_neg (by omega)]

end Go.Proofs.Ytkapncihoabnmaa.Pure
