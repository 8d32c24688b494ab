/- The statement FnQueues over lists of bytes: the packets of a drawn queue leave it in an order that the rules allow, each as it arrived. Draws that are longer than the law's own bound are let by, as the law itself does. -/
import Derived.Test.YtbdehpmfemgooaaPFnQueuesx16
import Derived.Test.YtbdehpmfemgooaaQLists
namespace Go.Proofs.Ytbdehpmfemgooaa.Pure
set_option linter.unusedVariables false
set_option linter.unusedSimpArgs false
open Go.RowKit Go.Proofs.Ytbdehpmfemgooaa.PFnQueues Go.Proofs.YtbdehpmfemgooaaW.PrintWords Go.Proofs.YtbdehpmfemgooaaW.PrintLast Go.Proofs.YtbdehpmfemgooaaW.PrintMore Go.Proofs.YtbdehpmfemgooaaX

theorem rdT_lt (l : List (S60)) (i : Nat) (h : i < l.length) : rd_T60 l (i : Int) = l[i] := by
  show l.getD i (⟨0, 0, 0, 0, 0, 0, 0, []⟩ : S60) = l[i]
  simp [h]
theorem rdQ_lt (l : List (S60)) (i : Nat) (h : i < l.length) : rd_T60 l (i : Int) = l[i] := by
  show l.getD i (⟨0, 0, 0, 0, 0, 0, 0, []⟩ : S60) = l[i]
  simp [h]
theorem within_eq (a l m : Int) : impl_within.f a l m = some (decide (l ≤ a ∧ a ≤ m)) := by
  unfold impl_within.f
  by_cases h : a ≥ l
  · have h' : l ≤ a := h
    rw [if_pos h]; simp [h']
  · have h' : ¬ l ≤ a := h
    rw [if_neg h]; simp [h']
theorem any_not {α : Type} (l : List α) (p : α → Bool) : (!l.any fun x => !p x) = l.all p := by
  induction l with
  | nil => rfl
  | cons a l ih => rw [List.any_cons, List.all_cons, Bool.not_or, ih, Bool.not_not]
/-- A cursor that has read no more than there is. -/
def CurOk (l : List Int) (i : Int) : Prop := 0 ≤ i ∧ i ≤ l.length ∧ (l.length : Int) ≤ 140737488351232
theorem byte_ok (l : List Int) (i h : Int) (hc : CurOk l i) : ∃ x i' h', spec_l01Byte.f l i h = some (x, i', h') ∧ 0 ≤ x ∧ x ≤ 255 ∧ CurOk l i' := by
  obtain ⟨h0, h1, h2⟩ := hc
  unfold spec_l01Byte.f
  by_cases hi : i < (l.length : Int)
  · rw [if_pos hi, if_pos h0]
    exact ⟨_, _, _, rfl, (and_mask _ 255 (by decide)).1, (and_mask _ 255 (by decide)).2, by rw [wrap_id _ (by omega)]; exact ⟨by omega, by omega, h2⟩⟩
  · rw [if_neg hi]
    exact ⟨_, _, _, rfl, (and_mask _ 255 (by decide)).1, (and_mask _ 255 (by decide)).2, ⟨h0, h1, h2⟩⟩
theorem below_ok (l : List Int) (i h n : Int) (hc : CurOk l i) (hn : 0 < n) : ∃ x i' h', spec_l01Below.f l i h n = some (x, i', h') ∧ 0 ≤ x ∧ x < n ∧ CurOk l i' := by
  unfold spec_l01Below.f
  rw [if_neg (by omega)]
  by_cases hb : n ≤ 256
  · rw [if_pos hb]
    obtain ⟨x, i1, h1, e, hx0, hx1, hc1⟩ := byte_ok l i h hc
    rw [e]
    simp only [Option.bind_some]
    rw [if_neg (by omega)]
    exact ⟨_, _, _, rfl, (tmod_range x n hx0 hn).1, (tmod_range x n hx0 hn).2, hc1⟩
  · rw [if_neg hb]
    obtain ⟨x, i1, h1, e1, hx0, hx1, hc1⟩ := byte_ok l i h hc
    obtain ⟨y, i2, h2, e2, hy0, hy1, hc2⟩ := byte_ok l i1 h1 hc1
    obtain ⟨z, i3, h3, e3, hz0, hz1, hc3⟩ := byte_ok l i2 h2 hc2
    obtain ⟨w, i4, h4, e4, hw0, hw1, hc4⟩ := byte_ok l i3 h3 hc3
    rw [e1]
    simp only [Option.bind_some]
    rw [e2]
    simp only [Option.bind_some]
    rw [e3]
    simp only [Option.bind_some]
    rw [e4]
    simp only [Option.bind_some]
    rw [if_neg (by omega)]
    have hv : 0 ≤ wrap64 ((wrap64 ((wrap64 ((wrap64 (x * 16777216)) + (wrap64 (y * 65536)))) + (wrap64 (z * 256)))) + w) := by
      rw [wrap_id (x * 16777216) (by omega), wrap_id (y * 65536) (by omega), wrap_id (z * 256) (by omega), wrap_id (x * 16777216 + y * 65536) (by omega), wrap_id (x * 16777216 + y * 65536 + z * 256) (by omega), wrap_id _ (by omega)]
      omega
    exact ⟨_, _, _, rfl, (tmod_range _ n hv hn).1, (tmod_range _ n hv hn).2, hc4⟩
theorem pick_ok (l : List Int) (i h : Int) (xs : List Int) (hc : CurOk l i) (hx : 0 < xs.length) : ∃ x i' h', spec_l01PickInt.f l i h xs = some (x, i', h') ∧ x ∈ xs ∧ CurOk l i' := by
  unfold spec_l01PickInt.f
  obtain ⟨q, i1, h1, e, h0, h2, hc1⟩ := below_ok l i h (xs.length : Int) hc (by omega)
  rw [e]
  simp only [Option.bind_some]
  rw [if_pos h0, if_pos h2]
  obtain ⟨m, rfl⟩ := Int.eq_ofNat_of_zero_le h0
  refine ⟨_, _, _, rfl, ?_, hc1⟩
  rw [rd_lt xs m (by omega)]
  exact List.getElem_mem _
theorem new_l0 (l : List Int) (d : Nat) : ∀ (i : Nat) (h : Int), i + d = 4000 → ∃ h', ∀ k, d < k → spec_l01New.l0 k l h (i : Int) = some (l, 0, h') := by
  induction d with
  | zero =>
    intro i h hi
    refine ⟨h, fun k hk => ?_⟩
    obtain ⟨k, rfl⟩ : ∃ m, k = m + 1 := ⟨k - 1, by omega⟩
    simp only [spec_l01New.l0]
    by_cases hlt : (i : Int) < (l.length : Int)
    · rw [if_pos hlt, if_neg (by omega)]
    · rw [if_neg hlt]
  | succ d ih =>
    intro i h hi
    by_cases hlt : (i : Int) < (l.length : Int)
    · obtain ⟨h', hh⟩ := ih (i + 1) (Go.bits .and .i64 (wrap64 ((wrap64 ((wrap64 (h * 131)) + (wrap64 (rd l i)))) + 7)) 1073741823) (by omega)
      refine ⟨h', fun k hk => ?_⟩
      obtain ⟨k, rfl⟩ : ∃ m, k = m + 1 := ⟨k - 1, by omega⟩
      simp only [spec_l01New.l0]
      rw [if_pos hlt, if_pos (show (i : Int) < 4000 by omega), if_pos (by omega), wrap_succ i (by omega)]
      exact hh k (by omega)
    · refine ⟨h, fun k hk => ?_⟩
      obtain ⟨k, rfl⟩ : ∃ m, k = m + 1 := ⟨k - 1, by omega⟩
      simp only [spec_l01New.l0]
      rw [if_neg hlt]
theorem new_ok (l : List Int) : ∃ h', ∀ k, 4000 < k → spec_l01New.f k l = some (l, 0, h') := by
  unfold spec_l01New.f
  exact new_l0 l 4000 0 _ (by omega)
def wordB (x : Int) : Bool := decide (0 ≤ x ∧ x ≤ 65535)
/-- A valid packet, kind by kind: its words are words (W), and it has m of them. -/
def pkQ (K f t a n g s : Int) (W : Bool) (m : Int) : Prop := (0 ≤ f ∧ f ≤ 255) ∧ W = true ∧
  ((K = 1 ∧ 1 ≤ m ∧ m ≤ 8 ∧ 0 ≤ a ∧ a ≤ 65536 - m ∧ s = 0 ∧ t = 0 ∧ n = 0 ∧ g = 0) ∨
   (K = 2 ∧ 1 ≤ m ∧ m ≤ 8 ∧ a = 0 ∧ s = 0 ∧ t = 0 ∧ n = 0 ∧ g = 0) ∨
   (K = 3 ∧ m = 0 ∧ 1 ≤ n ∧ n ≤ 64 ∧ 0 ≤ a ∧ a ≤ 65536 - n ∧ 0 ≤ g ∧ g ≤ 7 ∧ s = 0 ∧ t = 0) ∨
   (K = 4 ∧ m = 0 ∧ 0 ≤ a ∧ a ≤ 63 ∧ 0 ≤ t ∧ t ≤ 255 ∧ 0 ≤ g ∧ g ≤ 7 ∧ s = 0 ∧ n = 0) ∨
   (K = 5 ∧ m = 1 ∧ 0 ≤ a ∧ a ≤ 63 ∧ 0 ≤ t ∧ t ≤ 255 ∧ 0 ≤ g ∧ g ≤ 7 ∧ s = 0 ∧ n = 0) ∨
   (K = 6 ∧ a = 0 ∧ 0 ≤ t ∧ t ≤ 255 ∧ 0 ≤ g ∧ g ≤ 7 ∧ 0 ≤ s ∧ s ≤ 2 ∧ 0 ≤ n ∧ n ≤ 64 ∧ (m = 0 ∨ s = 0 ∧ m ≤ 8 ∧ m ≤ n)))
instance (K f t a n g s : Int) (W : Bool) (m : Int) : Decidable (pkQ K f t a n g s W m) := by unfold pkQ; infer_instance
def pkB (K f t a n g s : Int) (l : List Int) : Bool := decide (pkQ K f t a n g s (l.all wordB) (l.length : Int))
/-- Whether the data fit to the kind, as the program asks it. -/
def dataQ (K n s : Int) (m : Int) : Prop := (K = 1 ∨ K = 2) ∧ 1 ≤ m ∧ m ≤ 8 ∨ K = 5 ∧ m = 1 ∨ K = 6 ∧ s = 0 ∧ m ≤ 8 ∧ m ≤ n ∨ (K ≠ 1 ∧ K ≠ 2 ∧ K ≠ 5 ∧ ¬ (K = 6 ∧ s = 0)) ∧ m = 0
instance (K n s m : Int) : Decidable (dataQ K n s m) := by unfold dataQ; infer_instance
theorem notWord_eq (x : Int) : impl_Packet_dataOk_1.f x = some (!wordB x) := by
  unfold impl_Packet_dataOk_1.f impl_isWord.f
  rw [within_eq]
  rfl
theorem cWords_l0 (l : List (Int)) (hl : l.length ≤ 1048576) (d : Nat) : ∀ i : Nat, i + d = l.length → ∀ k, 0 + d < k → ∃ r, slices_IndexFunc_int_int__impl_Packet__dataOk_1.l0 k l (l.length : Int) (i : Int) = some r ∧ decide (r ≥ 0) = (l.drop i).any (fun x => !wordB x) := by
  induction d with
  | zero =>
    intro i hi k hk
    obtain ⟨k, rfl⟩ : ∃ m, k = m + 1 := ⟨k - 1, by omega⟩
    refine ⟨-1, ?_, ?_⟩
    · simp only [slices_IndexFunc_int_int__impl_Packet__dataOk_1.l0]
      rw [if_neg (show ¬ (i : Int) < (l.length : Int) by omega)]
    · rw [drop_all l i (by omega)]; rfl
  | succ d ih =>
    intro i hi k hk
    obtain ⟨k, rfl⟩ : ∃ m, k = m + 1 := ⟨k - 1, by omega⟩
    have hlt : i < l.length := by omega
    simp only [slices_IndexFunc_int_int__impl_Packet__dataOk_1.l0]
    rw [if_pos (show (i : Int) < (l.length : Int) by omega), if_pos (show (0 : Int) ≤ (i : Int) by omega), if_pos (show (i : Int) < (l.length : Int) by omega), rd_lt l i hlt, notWord_eq l[i]]
    simp only [Option.bind_some]
    by_cases hp : (fun x => !wordB x) l[i] = true
    · rw [if_pos hp]
      exact ⟨_, rfl, by rw [any_drop_yes l i hlt _ hp, decide_eq_true (by omega)]⟩
    · rw [if_neg hp, wrap_succ i (by omega)]
      obtain ⟨r, h1, h2⟩ := ih (i + 1) (by omega) k (by omega)
      exact ⟨r, h1, by rw [h2, any_drop_no l i hlt _ hp]⟩
theorem cWords_ev (l : List (Int)) (hl : l.length ≤ 1048576) (k : Nat) (hk : 0 + l.length < k) : slices_ContainsFunc_int_int__impl_Packet__dataOk_1.f k l = some (l.any (fun x => !wordB x)) := by
  obtain ⟨r, h1, h2⟩ := cWords_l0 l hl l.length 0 (by omega) k hk
  unfold slices_ContainsFunc_int_int__impl_Packet__dataOk_1.f slices_IndexFunc_int_int__impl_Packet__dataOk_1.f
  have c0 : ((0 : Nat) : Int) = 0 := rfl
  rw [c0] at h1
  rw [h1]
  simp only [Option.bind_some]
  rw [h2]; rfl
theorem iDataOk_ev (K f t a n g s : Int) (l : List Int) (hl : l.length ≤ 1048576) (k : Nat) (hk : 1048580 < k) : impl_Packet_dataOk.f k K f t a n g s l = some (l.all wordB && decide (dataQ K n s (l.length : Int))) := by
  obtain ⟨k, rfl⟩ : ∃ m, k = m + 1 := ⟨k - 1, by omega⟩
  unfold impl_Packet_dataOk.f
  rw [cWords_ev l hl _ (by omega)]
  simp only [Option.bind_some, impl_Packet_dataOk.j0, within_eq, if_true]
  rw [← any_not l wordB]
  generalize (l.any fun x => !wordB x) = W
  generalize (l.length : Int) = m
  cases W
  all_goals simp only [Bool.false_eq_true, if_false, if_true, Bool.not_false, Bool.not_true, Bool.true_and, Bool.false_and, beq_iff_eq]
  all_goals repeat' split
  all_goals first | rfl | (congr 1; rw [Bool.eq_iff_iff]; simp only [beq_iff_eq, decide_eq_true_eq, Bool.false_eq_true, false_iff, true_iff]; unfold dataQ; omega)
set_option maxHeartbeats 2000000 in
theorem iIsPacket_ev (K f t a n g s : Int) (l : List Int) (hl : l.length ≤ 1048576) (k : Nat) (hk : 1048590 < k) : impl_IsPacket.f k K f t a n g s l = some (pkB K f t a n g s l) := by
  obtain ⟨k, rfl⟩ : ∃ m, k = m + 3 := ⟨k - 3, by omega⟩
  unfold impl_IsPacket.f impl_IsId.f impl_Packet_addressOk.f impl_Packet_lengthOk.f pkB
  simp only [Option.bind_some, within_eq, impl_IsPacket.j0, impl_IsPacket.j1, impl_IsPacket.j2, impl_Packet_addressOk.j0, impl_Packet_words.f, impl_IsId.f, iDataOk_ev K f t a n g s l hl _ (show 1048580 < k by omega), decide_eq_true_eq, Bool.not_eq_true', Bool.false_eq_true, if_false, if_true]
  have hm : (0 : Int) ≤ (l.length : Int) ∧ (l.length : Int) ≤ 1048576 := by omega
  generalize (l.length : Int) = m at hm ⊢
  generalize l.all wordB = W
  by_cases hf : 0 ≤ f ∧ f ≤ 255
  case neg =>
    simp only [hf, if_false, if_true, Bool.true_eq_false]
    have e : decide (pkQ K f t a n g s W m) = false := by rw [decide_eq_false_iff_not]; unfold pkQ; exact fun h => hf h.1
    rw [e]
    repeat' split
    all_goals rfl
  by_cases k1 : K = 1
  · subst k1
    simp only [Int.reduceEq, Int.reduceLE, Int.reduceBEq, hf, if_true, if_false, Option.bind_some, and_true, true_and, and_false, false_and, Bool.true_eq_false, Bool.false_eq_true]
    cases W
    all_goals repeat' (first | (simp only [Option.bind_some, decide_eq_true_eq, Bool.false_eq_true, if_false, if_true, Bool.false_and, Bool.true_and]) | split)
    all_goals ((try simp only [Option.bind_some]); congr 1; rw [Bool.eq_iff_iff]; (try simp only [beq_iff_eq, decide_eq_true_eq, Bool.and_eq_true, Bool.false_eq_true]); unfold pkQ; (try unfold dataQ); (try simp only [eq_self, Bool.false_eq_true, true_and, false_and, and_false, false_iff, true_iff, iff_false, iff_true, not_false_eq_true, not_true_eq_false]); first | done | omega | ((try simp only [le_mn]); omega) | ((try simp only [wrap64, beq_eq_false_iff_ne, bne_iff_ne, beq_iff_eq, ne_eq, decide_eq_false_iff_not, Decidable.not_not, true_or, or_true, true_and, not_true_eq_false, not_false_eq_true, false_and, and_false, and_true, or_false, false_or, iff_false, iff_true, false_iff, true_iff, Int.reduceEq] at *); (try simp only [le_mn]); first | done | omega))
  by_cases k2 : K = 2
  · subst k2
    simp only [Int.reduceEq, Int.reduceLE, Int.reduceBEq, hf, if_true, if_false, Option.bind_some, and_true, true_and, and_false, false_and, Bool.true_eq_false, Bool.false_eq_true]
    cases W
    all_goals repeat' (first | (simp only [Option.bind_some, decide_eq_true_eq, Bool.false_eq_true, if_false, if_true, Bool.false_and, Bool.true_and]) | split)
    all_goals ((try simp only [Option.bind_some]); congr 1; rw [Bool.eq_iff_iff]; (try simp only [beq_iff_eq, decide_eq_true_eq, Bool.and_eq_true, Bool.false_eq_true]); unfold pkQ; (try unfold dataQ); (try simp only [eq_self, Bool.false_eq_true, true_and, false_and, and_false, false_iff, true_iff, iff_false, iff_true, not_false_eq_true, not_true_eq_false]); first | done | omega | ((try simp only [le_mn]); omega) | ((try simp only [wrap64, beq_eq_false_iff_ne, bne_iff_ne, beq_iff_eq, ne_eq, decide_eq_false_iff_not, Decidable.not_not, true_or, or_true, true_and, not_true_eq_false, not_false_eq_true, false_and, and_false, and_true, or_false, false_or, iff_false, iff_true, false_iff, true_iff, Int.reduceEq] at *); (try simp only [le_mn]); first | done | omega))
  by_cases k3 : K = 3
  · subst k3
    simp only [Int.reduceEq, Int.reduceLE, Int.reduceBEq, hf, if_true, if_false, Option.bind_some, and_true, true_and, and_false, false_and, Bool.true_eq_false, Bool.false_eq_true]
    cases W
    all_goals repeat' (first | (simp only [Option.bind_some, decide_eq_true_eq, Bool.false_eq_true, if_false, if_true, Bool.false_and, Bool.true_and]) | split)
    all_goals ((try simp only [Option.bind_some]); congr 1; rw [Bool.eq_iff_iff]; (try simp only [beq_iff_eq, decide_eq_true_eq, Bool.and_eq_true, Bool.false_eq_true]); unfold pkQ; (try unfold dataQ); (try simp only [eq_self, Bool.false_eq_true, true_and, false_and, and_false, false_iff, true_iff, iff_false, iff_true, not_false_eq_true, not_true_eq_false]); first | done | omega | ((try simp only [le_mn]); omega) | ((try simp only [wrap64, beq_eq_false_iff_ne, bne_iff_ne, beq_iff_eq, ne_eq, decide_eq_false_iff_not, Decidable.not_not, true_or, or_true, true_and, not_true_eq_false, not_false_eq_true, false_and, and_false, and_true, or_false, false_or, iff_false, iff_true, false_iff, true_iff, Int.reduceEq] at *); (try simp only [le_mn]); first | done | omega))
  by_cases k4 : K = 4
  · subst k4
    simp only [Int.reduceEq, Int.reduceLE, Int.reduceBEq, hf, if_true, if_false, Option.bind_some, and_true, true_and, and_false, false_and, Bool.true_eq_false, Bool.false_eq_true]
    cases W
    all_goals repeat' (first | (simp only [Option.bind_some, decide_eq_true_eq, Bool.false_eq_true, if_false, if_true, Bool.false_and, Bool.true_and]) | split)
    all_goals ((try simp only [Option.bind_some]); congr 1; rw [Bool.eq_iff_iff]; (try simp only [beq_iff_eq, decide_eq_true_eq, Bool.and_eq_true, Bool.false_eq_true]); unfold pkQ; (try unfold dataQ); (try simp only [eq_self, Bool.false_eq_true, true_and, false_and, and_false, false_iff, true_iff, iff_false, iff_true, not_false_eq_true, not_true_eq_false]); first | done | omega | ((try simp only [le_mn]); omega) | ((try simp only [wrap64, beq_eq_false_iff_ne, bne_iff_ne, beq_iff_eq, ne_eq, decide_eq_false_iff_not, Decidable.not_not, true_or, or_true, true_and, not_true_eq_false, not_false_eq_true, false_and, and_false, and_true, or_false, false_or, iff_false, iff_true, false_iff, true_iff, Int.reduceEq] at *); (try simp only [le_mn]); first | done | omega))
  by_cases k5 : K = 5
  · subst k5
    simp only [Int.reduceEq, Int.reduceLE, Int.reduceBEq, hf, if_true, if_false, Option.bind_some, and_true, true_and, and_false, false_and, Bool.true_eq_false, Bool.false_eq_true]
    cases W
    all_goals repeat' (first | (simp only [Option.bind_some, decide_eq_true_eq, Bool.false_eq_true, if_false, if_true, Bool.false_and, Bool.true_and]) | split)
    all_goals ((try simp only [Option.bind_some]); congr 1; rw [Bool.eq_iff_iff]; (try simp only [beq_iff_eq, decide_eq_true_eq, Bool.and_eq_true, Bool.false_eq_true]); unfold pkQ; (try unfold dataQ); (try simp only [eq_self, Bool.false_eq_true, true_and, false_and, and_false, false_iff, true_iff, iff_false, iff_true, not_false_eq_true, not_true_eq_false]); first | done | omega | ((try simp only [le_mn]); omega) | ((try simp only [wrap64, beq_eq_false_iff_ne, bne_iff_ne, beq_iff_eq, ne_eq, decide_eq_false_iff_not, Decidable.not_not, true_or, or_true, true_and, not_true_eq_false, not_false_eq_true, false_and, and_false, and_true, or_false, false_or, iff_false, iff_true, false_iff, true_iff, Int.reduceEq] at *); (try simp only [le_mn]); first | done | omega))
  by_cases k6 : K = 6
  · subst k6
    simp only [Int.reduceEq, Int.reduceLE, Int.reduceBEq, hf, if_true, if_false, Option.bind_some, and_true, true_and, and_false, false_and, Bool.true_eq_false, Bool.false_eq_true]
    cases W
    all_goals repeat' (first | (simp only [Option.bind_some, decide_eq_true_eq, Bool.false_eq_true, if_false, if_true, Bool.false_and, Bool.true_and]) | split)
    all_goals ((try simp only [Option.bind_some]); congr 1; rw [Bool.eq_iff_iff]; (try simp only [beq_iff_eq, decide_eq_true_eq, Bool.and_eq_true, Bool.false_eq_true]); unfold pkQ; (try unfold dataQ); (try simp only [eq_self, Bool.false_eq_true, true_and, false_and, and_false, false_iff, true_iff, iff_false, iff_true, not_false_eq_true, not_true_eq_false]); first | done | omega | ((try simp only [le_mn]); omega) | ((try simp only [wrap64, beq_eq_false_iff_ne, bne_iff_ne, beq_iff_eq, ne_eq, decide_eq_false_iff_not, Decidable.not_not, true_or, or_true, true_and, not_true_eq_false, not_false_eq_true, false_and, and_false, and_true, or_false, false_or, iff_false, iff_true, false_iff, true_iff, Int.reduceEq] at *); (try simp only [le_mn]); first | done | omega))
  simp only [show ¬ (1 ≤ K ∧ K ≤ 6) by omega, if_false, if_true]
  ((try simp only [Option.bind_some]); congr 1; rw [Bool.eq_iff_iff]; (try simp only [beq_iff_eq, decide_eq_true_eq, Bool.and_eq_true, Bool.false_eq_true]); unfold pkQ; (try unfold dataQ); (try simp only [eq_self, Bool.false_eq_true, true_and, false_and, and_false, false_iff, true_iff, iff_false, iff_true, not_false_eq_true, not_true_eq_false]); first | done | omega | ((try simp only [le_mn]); omega) | ((try simp only [wrap64, beq_eq_false_iff_ne, bne_iff_ne, beq_iff_eq, ne_eq, decide_eq_false_iff_not, Decidable.not_not, true_or, or_true, true_and, not_true_eq_false, not_false_eq_true, false_and, and_false, and_true, or_false, false_or, iff_false, iff_true, false_iff, true_iff, Int.reduceEq] at *); (try simp only [le_mn]); first | done | omega))
theorem data_l0 (l : List Int) (m : Nat) (hm : m ≤ 100) (d : Nat) : ∀ (n : Nat) (xs : List Int) (i h : Int), n + d = m → xs.length = n → xs.all wordB = true → CurOk l i → ∃ ys i' h', ys.length = m ∧ ys.all wordB = true ∧ CurOk l i' ∧ ∀ k, d < k → spec_l04Data.l0 k (m : Int) xs (n : Int) l i h = some (ys, i', h') := by
  induction d with
  | zero =>
    intro n xs i h hn hx hr hc
    refine ⟨xs, i, h, by omega, hr, hc, fun k hk => ?_⟩
    obtain ⟨k, rfl⟩ : ∃ m, k = m + 1 := ⟨k - 1, by omega⟩
    simp only [spec_l04Data.l0]
    rw [if_neg (by omega)]
  | succ d ih =>
    intro n xs i h hn hx hr hc
    obtain ⟨x, i1, h1, e1, hx0, hx1, hc1⟩ := below_ok l i h 256 hc (by omega)
    obtain ⟨y, i2, h2, e2, hy0, hy1, hc2⟩ := below_ok l i1 h1 65536 hc1 (by omega)
    obtain ⟨z, i3, h3, e3, hz, hc3⟩ := pick_ok l i2 h2 [0, 1, 65535, x, y] hc2 (by simp)
    have hz' : 0 ≤ z ∧ z ≤ 65535 := by
      simp only [List.mem_cons, List.not_mem_nil, or_false] at hz
      omega
    obtain ⟨ys, i', h', hy1', hy2', hy3', hy4'⟩ := ih (n + 1) (xs ++ [z]) i3 h3 (by omega) (by simp [hx]) (by
      rw [List.all_append, hr, List.all_cons, List.all_nil]
      simp [wordB, hz'.1, hz'.2]) hc3
    refine ⟨ys, i', h', hy1', hy2', hy3', fun k hk => ?_⟩
    obtain ⟨k, rfl⟩ : ∃ m, k = m + 1 := ⟨k - 1, by omega⟩
    simp only [spec_l04Data.l0]
    rw [if_pos (by omega), e1]
    simp only [Option.bind_some]
    rw [e2]
    simp only [Option.bind_some]
    rw [e3]
    simp only [Option.bind_some]
    rw [if_pos (by omega), wrap_succ n (by omega)]
    exact hy4' k (by omega)
theorem data_ok (l : List Int) (i h m : Int) (hm : 0 ≤ m ∧ m ≤ 100) (hc : CurOk l i) : ∃ ys i' h', (ys.length : Int) = m ∧ ys.all wordB = true ∧ CurOk l i' ∧ ∀ k, 100 < k → spec_l04Data.f k l i h m = some (ys, i', h') := by
  obtain ⟨n, rfl⟩ := Int.eq_ofNat_of_zero_le hm.1
  obtain ⟨ys, i', h', h1, h2, h3, h4⟩ := data_l0 l n (by omega) n 0 [] i h (by omega) rfl rfl hc
  refine ⟨ys, i', h', by omega, h2, h3, fun k hk => ?_⟩
  unfold spec_l04Data.f
  exact h4 k (by omega)
theorem pk_data {K f t a n g s m : Int} {xs : List Int} (hm : (xs.length : Int) = m) (hv : xs.all wordB = true) (h : pkQ K f t a n g s true m) : pkB K f t a n g s xs = true := by
  unfold pkB
  rw [hv, hm]
  exact decide_eq_true h
theorem pk1 {f a m : Int} (hf : 0 ≤ f ∧ f ≤ 255) (hm : 1 ≤ m ∧ m ≤ 8) (ha : 0 ≤ a ∧ a ≤ 65536 - m) : pkQ 1 f 0 a 0 0 0 true m := ⟨hf, rfl, .inl ⟨rfl, hm.1, hm.2, ha.1, ha.2, rfl, rfl, rfl, rfl⟩⟩
theorem pk2 {f m : Int} (hf : 0 ≤ f ∧ f ≤ 255) (hm : 1 ≤ m ∧ m ≤ 8) : pkQ 2 f 0 0 0 0 0 true m := ⟨hf, rfl, .inr (.inl ⟨rfl, hm.1, hm.2, rfl, rfl, rfl, rfl, rfl⟩)⟩
theorem pk3 {f a n g : Int} (hf : 0 ≤ f ∧ f ≤ 255) (hn : 1 ≤ n ∧ n ≤ 64) (ha : 0 ≤ a ∧ a ≤ 65536 - n) (hg : 0 ≤ g ∧ g ≤ 7) : pkQ 3 f 0 a n g 0 true 0 := ⟨hf, rfl, .inr (.inr (.inl ⟨rfl, rfl, hn.1, hn.2, ha.1, ha.2, hg.1, hg.2, rfl, rfl⟩))⟩
theorem pk4 {f t a g : Int} (hf : 0 ≤ f ∧ f ≤ 255) (ha : 0 ≤ a ∧ a ≤ 63) (ht : 0 ≤ t ∧ t ≤ 255) (hg : 0 ≤ g ∧ g ≤ 7) : pkQ 4 f t a 0 g 0 true 0 := ⟨hf, rfl, .inr (.inr (.inr (.inl ⟨rfl, rfl, ha.1, ha.2, ht.1, ht.2, hg.1, hg.2, rfl, rfl⟩)))⟩
theorem pk5 {f t a g : Int} (hf : 0 ≤ f ∧ f ≤ 255) (ha : 0 ≤ a ∧ a ≤ 63) (ht : 0 ≤ t ∧ t ≤ 255) (hg : 0 ≤ g ∧ g ≤ 7) : pkQ 5 f t a 0 g 0 true 1 := ⟨hf, rfl, .inr (.inr (.inr (.inr (.inl ⟨rfl, rfl, ha.1, ha.2, ht.1, ht.2, hg.1, hg.2, rfl, rfl⟩))))⟩
theorem pk6 {f t n g s m : Int} (hf : 0 ≤ f ∧ f ≤ 255) (ht : 0 ≤ t ∧ t ≤ 255) (hg : 0 ≤ g ∧ g ≤ 7) (hs : 0 ≤ s ∧ s ≤ 2) (hn : 0 ≤ n ∧ n ≤ 64) (hm : m = 0 ∨ s = 0 ∧ m ≤ 8 ∧ m ≤ n) : pkQ 6 f t 0 n g s true m := ⟨hf, rfl, .inr (.inr (.inr (.inr (.inr ⟨rfl, rfl, ht.1, ht.2, hg.1, hg.2, hs.1, hs.2, hn.1, hn.2, hm⟩))))⟩
theorem pk_nil {K f t a n g s : Int} (h : pkQ K f t a n g s true 0) : pkB K f t a n g s [] = true := pk_data rfl rfl h
set_option maxHeartbeats 2000000 in
/-- A drawn packet is a valid one. -/
theorem packet_ok (l : List Int) (i h : Int) (hc : CurOk l i) : ∃ K f t a n g s xs i' h', pkB K f t a n g s xs = true ∧ CurOk l i' ∧ ∀ k, 200 < k → spec_l04Packet.f k l i h = some (K, f, t, a, n, g, s, xs, i', h') := by
  obtain ⟨x, i1, h1, e1, hx0, hx1, hc1⟩ := below_ok l i h 6 hc (by omega)
  obtain ⟨f, i2, h2, e2, hf0, hf1, hc2⟩ := below_ok l i1 h1 256 hc1 (by omega)
  have hx : x = 0 ∨ x = 1 ∨ x = 2 ∨ x = 3 ∨ x = 4 ∨ x = 5 := by omega
  rcases hx with rfl | rfl | rfl | rfl | rfl | rfl
  · have hw : wrap64 1 = 1 := wrap_id _ (by omega)
    obtain ⟨q, i3, h3, e3, hq0, hq1, hc3⟩ := below_ok l i2 h2 8 hc2 (by omega)
    have hq : wrap64 (1 + q) = 1 + q := wrap_id _ (by omega)
    obtain ⟨ys, i4, h4, hl, hv, hc4, e4⟩ := data_ok l i3 h3 (1 + q) (by omega) hc3
    obtain ⟨y, i5, h5, e5, hy0, hy1, hc5⟩ := below_ok l i4 h4 60000 hc4 (by omega)
    obtain ⟨a, i6, h6, e6, ha, hc6⟩ := pick_ok l i5 h5 [0, 100, 4096, 65528, y] hc5 (by simp)
    simp only [List.mem_cons, List.not_mem_nil, or_false] at ha
    refine ⟨1, f, 0, a, 0, 0, 0, ys, i6, h6, ?_, hc6, fun k hk => ?_⟩
    · exact pk_data hl hv (pk1 ⟨hf0, by omega⟩ (by omega) (by omega))
    · obtain ⟨k, rfl⟩ : ∃ m, k = m + 2 := ⟨k - 2, by omega⟩
      unfold spec_l04Packet.f
      simp only [hw, hq, Option.bind_some, spec_l04Packet.j0, spec_l04Packet.j1, Int.reduceEq, Int.reduceBEq, Int.reduceAdd, if_true, if_false, Bool.false_eq_true, e1, e2, e3, e4 (k + 1) (by omega), e5, e6]
  · have hw : wrap64 2 = 2 := wrap_id _ (by omega)
    obtain ⟨q, i3, h3, e3, hq0, hq1, hc3⟩ := below_ok l i2 h2 8 hc2 (by omega)
    have hq : wrap64 (1 + q) = 1 + q := wrap_id _ (by omega)
    obtain ⟨ys, i4, h4, hl, hv, hc4, e4⟩ := data_ok l i3 h3 (1 + q) (by omega) hc3
    refine ⟨2, f, 0, 0, 0, 0, 0, ys, i4, h4, ?_, hc4, fun k hk => ?_⟩
    · exact pk_data hl hv (pk2 ⟨hf0, by omega⟩ (by omega))
    · obtain ⟨k, rfl⟩ : ∃ m, k = m + 2 := ⟨k - 2, by omega⟩
      unfold spec_l04Packet.f
      simp only [hw, hq, Option.bind_some, spec_l04Packet.j0, spec_l04Packet.j1, Int.reduceEq, Int.reduceBEq, Int.reduceAdd, if_true, if_false, Bool.false_eq_true, e1, e2, e3, e4 (k + 1) (by omega)]
  · have hw : wrap64 3 = 3 := wrap_id _ (by omega)
    obtain ⟨n, i3, h3, e3, hn, hc3⟩ := pick_ok l i2 h2 [1, 4, 8, 20, 64] hc2 (by simp)
    obtain ⟨y, i5, h5, e5, hy0, hy1, hc5⟩ := below_ok l i3 h3 60000 hc3 (by omega)
    obtain ⟨a, i6, h6, e6, ha, hc6⟩ := pick_ok l i5 h5 [0, 100, 4096, 65472, y] hc5 (by simp)
    obtain ⟨g, i7, h7, e7, hg0, hg1, hc7⟩ := below_ok l i6 h6 8 hc6 (by omega)
    simp only [List.mem_cons, List.not_mem_nil, or_false] at ha hn
    refine ⟨3, f, 0, a, n, g, 0, [], i7, h7, ?_, hc7, fun k hk => ?_⟩
    · exact pk_nil (pk3 ⟨hf0, by omega⟩ (by omega) (by omega) (by omega))
    · obtain ⟨k, rfl⟩ : ∃ m, k = m + 2 := ⟨k - 2, by omega⟩
      unfold spec_l04Packet.f
      simp only [hw, Option.bind_some, spec_l04Packet.j0, spec_l04Packet.j1, Int.reduceEq, Int.reduceBEq, Int.reduceAdd, if_true, if_false, Bool.false_eq_true, e1, e2, e3, e5, e6, e7]
  · have hw : wrap64 4 = 4 := wrap_id _ (by omega)
    obtain ⟨t, i3, h3, e3, ht0, ht1, hc3⟩ := below_ok l i2 h2 256 hc2 (by omega)
    obtain ⟨a, i4, h4, e4, ha0, ha1, hc4⟩ := below_ok l i3 h3 64 hc3 (by omega)
    obtain ⟨g, i5, h5, e5, hg0, hg1, hc5⟩ := below_ok l i4 h4 8 hc4 (by omega)
    refine ⟨4, f, t, a, 0, g, 0, [], i5, h5, ?_, hc5, fun k hk => ?_⟩
    · exact pk_nil (pk4 ⟨hf0, by omega⟩ (by omega) (by omega) (by omega))
    · obtain ⟨k, rfl⟩ : ∃ m, k = m + 2 := ⟨k - 2, by omega⟩
      unfold spec_l04Packet.f
      simp only [hw, Option.bind_some, spec_l04Packet.j0, spec_l04Packet.j1, Int.reduceEq, Int.reduceBEq, Int.reduceAdd, if_true, if_false, Bool.false_eq_true, e1, e2, e3, e4, e5]
  · have hw : wrap64 5 = 5 := wrap_id _ (by omega)
    obtain ⟨t, i3, h3, e3, ht0, ht1, hc3⟩ := below_ok l i2 h2 256 hc2 (by omega)
    obtain ⟨a, i4, h4, e4, ha0, ha1, hc4⟩ := below_ok l i3 h3 64 hc3 (by omega)
    obtain ⟨g, i5, h5, e5, hg0, hg1, hc5⟩ := below_ok l i4 h4 8 hc4 (by omega)
    obtain ⟨ys, i6, h6, hl, hv, hc6, e6⟩ := data_ok l i5 h5 1 (by omega) hc5
    refine ⟨5, f, t, a, 0, g, 0, ys, i6, h6, ?_, hc6, fun k hk => ?_⟩
    · exact pk_data hl hv (pk5 ⟨hf0, by omega⟩ (by omega) (by omega) (by omega))
    · obtain ⟨k, rfl⟩ : ∃ m, k = m + 2 := ⟨k - 2, by omega⟩
      unfold spec_l04Packet.f
      simp only [hw, Option.bind_some, spec_l04Packet.j0, spec_l04Packet.j1, Int.reduceEq, Int.reduceBEq, Int.reduceAdd, if_true, if_false, Bool.false_eq_true, e1, e2, e3, e4, e5, e6 k (by omega)]
  · have hw : wrap64 6 = 6 := wrap_id _ (by omega)
    obtain ⟨t, i3, h3, e3, ht0, ht1, hc3⟩ := below_ok l i2 h2 256 hc2 (by omega)
    obtain ⟨g, i4, h4, e4, hg0, hg1, hc4⟩ := below_ok l i3 h3 8 hc3 (by omega)
    obtain ⟨s, i5, h5, e5, hs, hc5⟩ := pick_ok l i4 h4 [0, 0, 0, 1, 2] hc4 (by simp)
    obtain ⟨n, i6, h6, e6, hn, hc6⟩ := pick_ok l i5 h5 [8, 0, 20, 64] hc5 (by simp)
    simp only [List.mem_cons, List.not_mem_nil, or_false] at hs hn
    by_cases hs0 : s = 0
    · obtain ⟨b, i7, h7, e7, hb0, hb1, hc7⟩ := below_ok l i6 h6 9 hc6 (by omega)
      have hmn : 0 ≤ mn n b ∧ mn n b ≤ 8 ∧ mn n b ≤ n := by unfold mn; split <;> omega
      obtain ⟨ys, i8, h8, hl, hv, hc8, e8⟩ := data_ok l i7 h7 (mn n b) (by omega) hc7
      refine ⟨6, f, t, 0, n, g, s, ys, i8, h8, ?_, hc8, fun k hk => ?_⟩
      · exact pk_data hl hv (pk6 ⟨hf0, by omega⟩ (by omega) (by omega) (by omega) (by omega) (by omega))
      · obtain ⟨k, rfl⟩ : ∃ m, k = m + 2 := ⟨k - 2, by omega⟩
        unfold spec_l04Packet.f
        simp only [hw, Option.bind_some, spec_l04Packet.j0, spec_l04Packet.j1, Int.reduceEq, Int.reduceBEq, Int.reduceAdd, if_true, if_false, Bool.false_eq_true, e1, e2, e3, e4, e5, e6, hs0, e7, e8 k (by omega)]
    · refine ⟨6, f, t, 0, n, g, s, [], i6, h6, ?_, hc6, fun k hk => ?_⟩
      · exact pk_nil (pk6 ⟨hf0, by omega⟩ (by omega) (by omega) (by omega) (by omega) (by omega))
      · obtain ⟨k, rfl⟩ : ∃ m, k = m + 2 := ⟨k - 2, by omega⟩
        unfold spec_l04Packet.f
        simp only [hw, Option.bind_some, spec_l04Packet.j0, spec_l04Packet.j1, Int.reduceEq, Int.reduceBEq, Int.reduceAdd, if_true, if_false, Bool.false_eq_true, e1, e2, e3, e4, e5, e6, hs0]
theorem pkB_len {K f t a n g s : Int} {l : List Int} (h : pkB K f t a n g s l = true) : l.length ≤ 8 := by
  unfold pkB at h
  have h := of_decide_eq_true h
  unfold pkQ at h
  have h := h.2.2
  omega
def SmallQ (x : S60) : Prop := x.f7.length ≤ 1048576
def pkE (x : S60) : Bool := pkB x.f0 x.f1 x.f2 x.f3 x.f4 x.f5 x.f6 x.f7
theorem pk_answer {f t a n g s : Int} {xs : List Int} (b : Int) (hb : 0 ≤ b ∧ b < 2) (h : pkB 6 f t a n g s xs = true) : pkB 6 f 16 a n b s xs = true := by
  have hq : pkQ 6 f t a n g s (xs.all wordB) (xs.length : Int) := of_decide_eq_true h
  unfold pkQ at hq
  obtain ⟨hf, hw, hq⟩ := hq
  have ha : a = 0 := by omega
  subst ha
  unfold pkB
  rw [hw]
  exact decide_eq_true (pk6 hf (by omega) (by omega) (by omega) (by omega) (by omega))
theorem queue_l0 (l : List Int) (d : Nat) : ∀ (n : Nat) (q : List S60) (i h : Int), n + d = 6 → q.length = n → (∀ x ∈ q, pkE x = true) → CurOk l i → ∃ q' i' h', q'.length ≤ 6 ∧ (∀ x ∈ q', pkE x = true) ∧ CurOk l i' ∧ ∀ k, 300 + d < k → spec_l16Queue.l0 k q (n : Int) l i h = some (q', i', h') := by
  induction d with
  | zero =>
    intro n q i h hn hq hg hc
    obtain ⟨b, i1, h1, e1, hb0, hb1, hc1⟩ := below_ok l i h 7 hc (by omega)
    refine ⟨q, i1, h1, by omega, hg, hc1, fun k hk => ?_⟩
    obtain ⟨k, rfl⟩ : ∃ m, k = m + 1 := ⟨k - 1, by omega⟩
    simp only [spec_l16Queue.l0]
    rw [e1]
    simp only [Option.bind_some]
    rw [if_neg (by omega)]
  | succ d ih =>
    intro n q i h hn hq hg hc
    obtain ⟨b, i1, h1, e1, hb0, hb1, hc1⟩ := below_ok l i h 7 hc (by omega)
    by_cases hlt : (n : Int) < b
    · obtain ⟨K, f, t, a, m, g, s, xs, i2, h2, hp, hc2, e2⟩ := packet_ok l i1 h1 hc1
      by_cases hK : K = 6
      · subst hK
        obtain ⟨c, i3, h3, e3, hc0, hcc, hc3⟩ := below_ok l i2 h2 2 hc2 (by omega)
        obtain ⟨q', i', h', g1, g2, g3, g4⟩ := ih (n + 1) (q ++ [(⟨6, f, 16, a, m, c, s, xs⟩ : S60)]) i3 h3 (by omega) (by simp [hq]) (fun x hx => by
          rcases List.mem_append.1 hx with hx | hx
          · exact hg x hx
          · rw [List.mem_singleton.1 hx]; exact pk_answer c ⟨hc0, hcc⟩ hp) hc3
        refine ⟨q', i', h', g1, g2, g3, fun k hk => ?_⟩
        obtain ⟨k, rfl⟩ : ∃ m, k = m + 1 := ⟨k - 1, by omega⟩
        simp only [spec_l16Queue.l0]
        rw [e1]
        simp only [Option.bind_some]
        rw [if_pos hlt, e2 k (by omega)]
        simp only [Option.bind_some, if_true]
        rw [e3]
        simp only [Option.bind_some]
        rw [if_pos (by omega), wrap_succ n (by omega)]
        exact g4 k (by omega)
      · obtain ⟨q', i', h', g1, g2, g3, g4⟩ := ih (n + 1) (q ++ [(⟨K, f, t, a, m, g, s, xs⟩ : S60)]) i2 h2 (by omega) (by simp [hq]) (fun x hx => by
          rcases List.mem_append.1 hx with hx | hx
          · exact hg x hx
          · rw [List.mem_singleton.1 hx]; exact hp) hc2
        refine ⟨q', i', h', g1, g2, g3, fun k hk => ?_⟩
        obtain ⟨k, rfl⟩ : ∃ m, k = m + 1 := ⟨k - 1, by omega⟩
        simp only [spec_l16Queue.l0]
        rw [e1]
        simp only [Option.bind_some]
        rw [if_pos hlt, e2 k (by omega)]
        simp only [Option.bind_some]
        rw [if_neg hK, if_pos (by omega), wrap_succ n (by omega)]
        exact g4 k (by omega)
    · refine ⟨q, i1, h1, by omega, hg, hc1, fun k hk => ?_⟩
      obtain ⟨k, rfl⟩ : ∃ m, k = m + 1 := ⟨k - 1, by omega⟩
      simp only [spec_l16Queue.l0]
      rw [e1]
      simp only [Option.bind_some]
      rw [if_neg hlt]
theorem queue_ok (l : List Int) (i h : Int) (hc : CurOk l i) : ∃ q i' h', q.length ≤ 6 ∧ (∀ x ∈ q, pkE x = true) ∧ CurOk l i' ∧ ∀ k, 400 < k → spec_l16Queue.f k l i h = some (q, i', h') := by
  obtain ⟨q, i', h', g1, g2, g3, g4⟩ := queue_l0 l 6 0 [] i h (by omega) rfl (fun x hx => by cases hx) hc
  exact ⟨q, i', h', g1, g2, g3, fun k hk => g4 k (by omega)⟩
theorem pkE_small (x : S60) (h : pkE x = true) : SmallQ x := by
  have := pkB_len h
  unfold SmallQ
  omega

/-- The class of a packet: -1 where it is none. -/
def clI (K f t a n g s : Int) (l : List Int) : Int := if pkB K f t a n g s l = true then (if K = 1 then 0 else if K = 2 then 0 else if K = 6 then 2 else 1) else -1
theorem iClassOf_ev (K f t a n g s : Int) (l : List Int) (hl : l.length ≤ 1048576) (k : Nat) (hk : 1048590 < k) : impl_ClassOf.f k K f t a n g s l = some (clI K f t a n g s l) := by
  unfold impl_ClassOf.f impl_classOf.f clI
  rw [iIsPacket_ev K f t a n g s l hl k (by omega)]
  obtain ⟨k, rfl⟩ : ∃ m, k = m + 1 := ⟨k - 1, by omega⟩
  simp only [Option.bind_some, impl_classOf.j0, beq_iff_eq]
  cases pkB K f t a n g s l
  all_goals repeat' split
  all_goals first | rfl | (exfalso; omega) | simp_all
theorem clI_yes (K f t a n g s : Int) (l : List Int) : pkB K f t a n g s l = true ↔ 0 ≤ clI K f t a n g s l := by
  unfold clI
  cases pkB K f t a n g s l
  · simp
  · simp
    repeat' split
    all_goals omega

def mayB (c d : Int) (t g t' g' : Int) : Bool := decide (0 ≤ c ∧ 0 < d ∧ ¬ (c = 2 ∧ d = 2 ∧ t = t' ∧ g = g'))
theorem iMay_ev (K f t a n g s : Int) (l : List Int) (K' f' t' a' n' g' s' : Int) (l' : List Int) (hl : l.length ≤ 1048576) (hl' : l'.length ≤ 1048576) (k : Nat) (hk : 1048600 < k) : impl_MayPass.f k K f t a n g s l K' f' t' a' n' g' s' l' = some (mayB (clI K f t a n g s l) (clI K' f' t' a' n' g' s' l') t g t' g') := by
  unfold impl_MayPass.f
  obtain ⟨k, rfl⟩ : ∃ m, k = m + 1 := ⟨k - 1, by omega⟩
  rw [iIsPacket_ev K f t a n g s l hl _ (by omega), iIsPacket_ev K' f' t' a' n' g' s' l' hl' _ (by omega), iClassOf_ev K' f' t' a' n' g' s' l' hl' _ (by omega)]
  simp only [Option.bind_some, impl_MayPass.j0]
  rw [iClassOf_ev K f t a n g s l hl _ (by omega), iClassOf_ev K' f' t' a' n' g' s' l' hl' _ (by omega)]
  simp only [Option.bind_some, beq_iff_eq]
  have e1 := clI_yes K f t a n g s l
  have e2 := clI_yes K' f' t' a' n' g' s' l'
  unfold mayB
  generalize clI K f t a n g s l = c at e1 ⊢
  generalize clI K' f' t' a' n' g' s' l' = d at e2 ⊢
  generalize pkB K f t a n g s l = p at e1 ⊢
  generalize pkB K' f' t' a' n' g' s' l' = q at e2 ⊢
  cases p <;> cases q
  all_goals simp only [Bool.false_eq_true, if_false, if_true, false_iff, true_iff] at e1 e2 ⊢
  all_goals repeat' split
  all_goals (congr 1; rw [Bool.eq_iff_iff]; simp only [decide_eq_true_eq, Bool.false_eq_true, bne_iff_ne, ne_eq, false_iff, true_iff]; omega)

def clE (x : S60) : Int := clI x.f0 x.f1 x.f2 x.f3 x.f4 x.f5 x.f6 x.f7
def mayE (x y : S60) : Bool := mayB (clE x) (clE y) x.f2 x.f5 y.f2 y.f5
theorem iMay (k : Nat) (x y : S60) (h : SmallQ x) (h' : SmallQ y) (hk : 1048600 < k) : impl_MayPass.f k x.f0 x.f1 x.f2 x.f3 x.f4 x.f5 x.f6 x.f7 y.f0 y.f1 y.f2 y.f3 y.f4 y.f5 y.f6 y.f7 = some (mayE x y) := iMay_ev x.f0 x.f1 x.f2 x.f3 x.f4 x.f5 x.f6 x.f7 y.f0 y.f1 y.f2 y.f3 y.f4 y.f5 y.f6 y.f7 h h' k (by omega)
theorem small_rd (p : List S60) (hs : ∀ x ∈ p, SmallQ x) (y : Int) : SmallQ (rd_T60 p y) := by
  unfold rd_T60
  rw [List.getD_eq_getElem?_getD]
  cases h : p[y.toNat]? with
  | none => show ([] : List Int).length ≤ 1048576; simp
  | some x => exact hs x (List.mem_of_getElem? h)
/-- Whether the packet told first may stand behind a later one that was told before it. -/
def jB (p : List S60) (v y : Int) : Bool := if v < y then mayE (rd_T60 p y) (rd_T60 p v) else true
def inB (n : Nat) (v : Int) : Bool := decide (0 ≤ v ∧ v ≤ (n : Int) - 1)
def legalB (p : List S60) : List Int → List Int → Bool
  | _, [] => true
  | pre, v :: r => inB p.length v && (!(decide (v ∈ pre)) && (pre.all (jB p v) && legalB p (pre ++ [v]) r))
theorem has_l0 (v : Int) (l : List Int) (hl : l.length ≤ 1048576) (d : Nat) : ∀ i : Nat, i + d = l.length → ∀ k, d < k → ∃ r, slices_Index_int_int.l0 k l v (l.length : Int) (i : Int) = some r ∧ decide (r ≥ 0) = decide (v ∈ l.drop i) := by
  induction d with
  | zero =>
    intro i hi k hk
    obtain ⟨k, rfl⟩ : ∃ m, k = m + 1 := ⟨k - 1, by omega⟩
    refine ⟨-1, ?_, ?_⟩
    · simp only [slices_Index_int_int.l0]
      rw [if_neg (show ¬ (i : Int) < (l.length : Int) by omega)]
    · rw [drop_all l i (by omega)]; simp
  | succ d ih =>
    intro i hi k hk
    obtain ⟨k, rfl⟩ : ∃ m, k = m + 1 := ⟨k - 1, by omega⟩
    have hlt : i < l.length := by omega
    simp only [slices_Index_int_int.l0]
    rw [if_pos (show (i : Int) < (l.length : Int) by omega), if_pos (show (0 : Int) ≤ (i : Int) by omega), if_pos (show (i : Int) < (l.length : Int) by omega), rd_lt l i hlt, drop_cons l i hlt]
    by_cases hp : v = l[i]
    · rw [if_pos hp]
      exact ⟨_, rfl, by rw [decide_eq_true (by omega), decide_eq_true (by rw [← hp]; exact List.mem_cons_self)]⟩
    · rw [if_neg hp, wrap_succ i (by omega)]
      obtain ⟨r, h1, h2⟩ := ih (i + 1) (by omega) k (by omega)
      exact ⟨r, h1, by rw [h2, decide_eq_decide, List.mem_cons]; exact ⟨Or.inr, fun h => h.resolve_left hp⟩⟩
theorem has_ev (v : Int) (l : List Int) (hl : l.length ≤ 1048576) (k : Nat) (hk : l.length < k) : slices_Contains_int_int.f k l v = some (decide (v ∈ l)) := by
  obtain ⟨r, h1, h2⟩ := has_l0 v l hl l.length 0 (by omega) k hk
  unfold slices_Contains_int_int.f slices_Index_int_int.f
  have c0 : ((0 : Nat) : Int) = 0 := rfl
  rw [c0] at h1
  rw [h1]
  simp only [Option.bind_some]
  rw [h2]; rfl
theorem impl_in (p : List S60) (hs : ∀ x ∈ p, SmallQ x) (o : List Int) (ho : o.length ≤ 1048576) (i : Nat) (hi : i < o.length) (hv : ∀ v ∈ o.take (i + 1), 0 ≤ v ∧ v < (p.length : Int)) (R : Bool) (K : Nat) (hK : 1048600 ≤ K) (hR : ∀ k, K < k → impl_IsLegalOrder.l0 k p o o (o.length : Int) ((i + 1 : Nat) : Int) = some R) (d : Nat) : ∀ j : Nat, j + d = i → ∀ k, K + d + 1 < k → impl_IsLegalOrder.l1 k p o o[i] o (o.length : Int) (i : Int) (o.take i) ((o.take i).length : Int) (j : Int) = some (((o.take i).drop j).all (jB p o[i]) && R) := by
  have hvi : 0 ≤ o[i] ∧ o[i] < (p.length : Int) := hv _ (List.mem_take_iff_getElem.2 ⟨i, by omega, rfl⟩)
  induction d with
  | zero =>
    intro j hj k hk
    obtain ⟨k, rfl⟩ : ∃ m, k = m + 1 := ⟨k - 1, by omega⟩
    simp only [impl_IsLegalOrder.l1]
    rw [if_neg (show ¬ (j : Int) < ((o.take i).length : Int) by rw [List.length_take]; omega), wrap_succ i (by omega), hR k (by omega), drop_all (o.take i) j (by simp; omega), List.all_nil, Bool.true_and]
  | succ d ih =>
    intro j hj k hk
    obtain ⟨k, rfl⟩ : ∃ m, k = m + 1 := ⟨k - 1, by omega⟩
    have hj1 : j < i := by omega
    have hj2 : j < o.length := by omega
    have hj3 : j < (o.take i).length := by rw [List.length_take]; omega
    have hvj : 0 ≤ o[j] ∧ o[j] < (p.length : Int) := hv _ (List.mem_take_iff_getElem.2 ⟨j, by omega, rfl⟩)
    have ih := ih (j + 1) (by omega) k (by omega)
    simp only [impl_IsLegalOrder.l1]
    rw [if_pos (show (j : Int) < ((o.take i).length : Int) by omega), if_pos (show (0 : Int) ≤ (j : Int) by omega), if_pos (show (j : Int) < ((o.take i).length : Int) by omega), rd_lt (o.take i) j hj3, List.getElem_take]
    rw [drop_cons (o.take i) j hj3, List.all_cons, List.getElem_take]
    have hb : jB p o[i] o[j] = if o[i] < o[j] then mayE (rd_T60 p o[j]) (rd_T60 p o[i]) else true := rfl
    by_cases hlt : o[i] < o[j]
    · rw [if_pos hlt, if_pos hvj.1, if_pos hvj.2, if_pos hvi.1, if_pos hvi.2, iMay k _ _ (small_rd p hs o[j]) (small_rd p hs o[i]) (by omega)]
      simp only [Option.bind_some]
      rw [hb, if_pos hlt]
      by_cases hm : mayE (rd_T60 p o[j]) (rd_T60 p o[i]) = true
      · rw [if_pos hm, hm, Bool.true_and, wrap_succ j (by omega), ih]
      · rw [if_neg hm, Bool.eq_false_iff.mpr hm, Bool.false_and, Bool.false_and]
    · rw [if_neg hlt, hb, if_neg hlt, Bool.true_and, wrap_succ j (by omega), ih]
theorem impl_order (p : List S60) (hp : p.length ≤ 1048576) (hs : ∀ x ∈ p, SmallQ x) (o : List Int) (ho : o.length ≤ 1048576) (d : Nat) : ∀ (i : Nat), i + d = o.length → (∀ v ∈ o.take i, 0 ≤ v ∧ v < (p.length : Int)) → ∀ k, 1048700 + d * 1048700 < k → impl_IsLegalOrder.l0 k p o o (o.length : Int) (i : Int) = some (legalB p (o.take i) (o.drop i) && decide (o.length = p.length)) := by
  induction d with
  | zero =>
    intro i hi hv k hk
    obtain ⟨k, rfl⟩ : ∃ m, k = m + 1 := ⟨k - 1, by omega⟩
    simp only [impl_IsLegalOrder.l0]
    rw [if_neg (show ¬ (i : Int) < (o.length : Int) by omega), drop_all o i (by omega)]
    simp only [legalB, Bool.true_and]
    congr 1
    rw [Bool.eq_iff_iff]
    simp only [beq_iff_eq, decide_eq_true_eq]
    omega
  | succ d ih =>
    intro i hi hv k hk
    obtain ⟨k, rfl⟩ : ∃ m, k = m + 2 := ⟨k - 2, by omega⟩
    have hlt : i < o.length := by omega
    simp only [impl_IsLegalOrder.l0]
    rw [if_pos (show (i : Int) < (o.length : Int) by omega), if_pos (show (0 : Int) ≤ (i : Int) by omega), if_pos (show (i : Int) < (o.length : Int) by omega), rd_lt o i hlt, wrap_id ((p.length : Int) - 1) (by omega), show impl_within.f o[i] 0 ((p.length : Int) - 1) = some (inB p.length o[i]) from within_eq _ _ _, drop_cons o i hlt]
    simp only [Option.bind_some, legalB]
    by_cases hin : inB p.length o[i] = true
    · have hr : 0 ≤ o[i] ∧ o[i] ≤ (p.length : Int) - 1 := of_decide_eq_true hin
      rw [if_pos hin, hin, if_pos (show (i : Int) ≤ (o.length : Int) by omega), toNat_nat, has_ev o[i] (o.take i) (by rw [List.length_take]; omega) _ (by rw [List.length_take]; omega), Bool.true_and]
      simp only [Option.bind_some, impl_IsLegalOrder.j1]
      by_cases hm : o[i] ∈ o.take i
      · rw [decide_eq_true hm, if_pos rfl]; rfl
      · rw [decide_eq_false hm, if_neg (by decide), if_pos (show (0 : Int) ≤ (i : Int) by omega), if_pos (show (i : Int) ≤ (o.length : Int) by omega), toNat_nat]
        have hv' : ∀ v ∈ o.take (i + 1), 0 ≤ v ∧ v < (p.length : Int) := by
          intro v hv1
          rw [take_snoc o i hlt] at hv1
          rcases List.mem_append.1 hv1 with h | h
          · exact hv v h
          · rw [List.mem_singleton.1 h]; omega
        have h := impl_in p hs o ho i hlt hv' (legalB p (o.take (i + 1)) (o.drop (i + 1)) && decide (o.length = p.length)) (1048700 + d * 1048700) (by omega) (fun k hk => ih (i + 1) (by omega) hv' k hk) i 0 (by omega) k (by omega)
        have c0 : ((0 : Nat) : Int) = 0 := rfl
        rw [c0] at h
        rw [h, ← take_snoc o i hlt]
        simp only [List.drop_zero, Bool.not_false, Bool.true_and, Bool.and_assoc]
    · rw [if_neg hin, Bool.eq_false_iff.mpr hin, Bool.false_and, Bool.false_and]
      simp only [impl_IsLegalOrder.j1]
      rfl
theorem iOrder_ev (p : List S60) (hp : p.length ≤ 1048576) (hs : ∀ x ∈ p, SmallQ x) (o : List Int) (ho : o.length ≤ 1048576) (k : Nat) (hk : 1099644300000 < k) : impl_IsLegalOrder.f k p o = some (legalB p [] o && decide (o.length = p.length)) := by
  unfold impl_IsLegalOrder.f
  have e := impl_order p hp hs o ho o.length 0 (by omega) (by simp) k (by omega)
  have c0 : ((0 : Nat) : Int) = 0 := rfl
  rw [c0, List.take_zero, List.drop_zero] at e
  exact e

def credB (x : Int) : Bool := decide (0 ≤ x ∧ x ≤ 30)
def areCr (l : List Int) : Bool := decide (l.length = 3) && l.all credB
def crB (a b : List Int) : Bool := areCr a && areCr b
theorem notCred_eq (x : Int) : impl_areCredits_1.f x = some (!credB x) := by
  unfold impl_areCredits_1.f
  rw [within_eq]
  rfl
theorem cCred_l0 (l : List (Int)) (hl : l.length ≤ 1048576) (d : Nat) : ∀ i : Nat, i + d = l.length → ∀ k, 0 + d < k → ∃ r, slices_IndexFunc_int_int__impl_areCredits_1.l0 k l (l.length : Int) (i : Int) = some r ∧ decide (r ≥ 0) = (l.drop i).any (fun x => !credB x) := by
  induction d with
  | zero =>
    intro i hi k hk
    obtain ⟨k, rfl⟩ : ∃ m, k = m + 1 := ⟨k - 1, by omega⟩
    refine ⟨-1, ?_, ?_⟩
    · simp only [slices_IndexFunc_int_int__impl_areCredits_1.l0]
      rw [if_neg (show ¬ (i : Int) < (l.length : Int) by omega)]
    · rw [drop_all l i (by omega)]; rfl
  | succ d ih =>
    intro i hi k hk
    obtain ⟨k, rfl⟩ : ∃ m, k = m + 1 := ⟨k - 1, by omega⟩
    have hlt : i < l.length := by omega
    simp only [slices_IndexFunc_int_int__impl_areCredits_1.l0]
    rw [if_pos (show (i : Int) < (l.length : Int) by omega), if_pos (show (0 : Int) ≤ (i : Int) by omega), if_pos (show (i : Int) < (l.length : Int) by omega), rd_lt l i hlt, notCred_eq l[i]]
    simp only [Option.bind_some]
    by_cases hp : (fun x => !credB x) l[i] = true
    · rw [if_pos hp]
      exact ⟨_, rfl, by rw [any_drop_yes l i hlt _ hp, decide_eq_true (by omega)]⟩
    · rw [if_neg hp, wrap_succ i (by omega)]
      obtain ⟨r, h1, h2⟩ := ih (i + 1) (by omega) k (by omega)
      exact ⟨r, h1, by rw [h2, any_drop_no l i hlt _ hp]⟩
theorem cCred_ev (l : List (Int)) (hl : l.length ≤ 1048576) (k : Nat) (hk : 0 + l.length < k) : slices_ContainsFunc_int_int__impl_areCredits_1.f k l = some (l.any (fun x => !credB x)) := by
  obtain ⟨r, h1, h2⟩ := cCred_l0 l hl l.length 0 (by omega) k hk
  unfold slices_ContainsFunc_int_int__impl_areCredits_1.f slices_IndexFunc_int_int__impl_areCredits_1.f
  have c0 : ((0 : Nat) : Int) = 0 := rfl
  rw [c0] at h1
  rw [h1]
  simp only [Option.bind_some]
  rw [h2]; rfl
theorem iAreCredits_ev (l : List Int) (k : Nat) (hk : 3 < k) : impl_areCredits.f k l = some (areCr l) := by
  unfold impl_areCredits.f areCr
  by_cases h : (l.length : Int) = 3
  · rw [if_pos h, cCred_ev l (by omega) k (by omega)]
    simp only [Option.bind_some]
    rw [any_not, decide_eq_true (show l.length = 3 by omega), Bool.true_and]
  · rw [if_neg h, decide_eq_false (show ¬ l.length = 3 by omega), Bool.false_and]
theorem iCreditsOk_ev (a b : List Int) (k : Nat) (hk : 3 < k) : impl_CreditsOk.f k a b = some (crB a b) := by
  unfold impl_CreditsOk.f crB
  rw [iAreCredits_ev a k hk, iAreCredits_ev b k hk]
  cases areCr a <;> simp
def unI (K f t a n g s : Int) (l : List Int) : Int := if pkB K f t a n g s l = true then ((l.length : Int) + 3) / 4 else -1
theorem iUnits_ev (K f t a n g s : Int) (l : List Int) (hl : l.length ≤ 1048576) (k : Nat) (hk : 1048590 < k) : impl_PacketUnits.f k K f t a n g s l = some (unI K f t a n g s l) := by
  unfold impl_PacketUnits.f unI
  rw [iIsPacket_ev K f t a n g s l hl k (by omega)]
  simp only [Option.bind_some]
  rw [wrap_id ((l.length : Int) + 3) (by omega)]
  cases pkB K f t a n g s l
  · simp
  · simp; rw [Int.tdiv_eq_ediv_of_nonneg (by omega), wrap_id _ (by omega)]
theorem cl_range (K f t a n g s : Int) (l : List Int) : -1 ≤ clI K f t a n g s l ∧ clI K f t a n g s l ≤ 2 := by
  unfold clI
  repeat' split
  all_goals omega
theorem crB_len {a b : List Int} (h : crB a b = true) : a.length = 3 ∧ b.length = 3 := by
  unfold crB areCr at h
  simp only [Bool.and_eq_true, decide_eq_true_eq] at h
  exact ⟨h.1.1, h.2.1⟩
/-- Whether credits and a packet allow to send. -/
def sendB (x y : List Int) (K f t a n g s : Int) (l : List Int) : Bool := if crB x y = true then if pkB K f t a n g s l = true then if 1 ≤ rd x (clI K f t a n g s l) then decide (unI K f t a n g s l ≤ rd y (clI K f t a n g s l)) else false else false else false
theorem iCanSend_ev (x y : List Int) (K f t a n g s : Int) (l : List Int) (hl : l.length ≤ 1048576) (k : Nat) (hk : 1048600 < k) : impl_CanSend.f k x y K f t a n g s l = some (sendB x y K f t a n g s l) := by
  obtain ⟨k, rfl⟩ : ∃ m, k = m + 1 := ⟨k - 1, by omega⟩
  unfold impl_CanSend.f sendB
  rw [iCreditsOk_ev x y _ (by omega), iIsPacket_ev K f t a n g s l hl _ (by omega)]
  simp only [Option.bind_some, impl_CanSend.j0]
  rw [iClassOf_ev K f t a n g s l hl _ (by omega)]
  simp only [Option.bind_some]
  by_cases hc : crB x y = true
  · obtain ⟨h1, h2⟩ := crB_len hc
    rw [if_pos hc, if_pos hc]
    have hr := cl_range K f t a n g s l
    have hy := clI_yes K f t a n g s l
    by_cases hp : pkB K f t a n g s l = true
    · have h0 := hy.1 hp
      rw [hp, if_neg (by decide), if_pos rfl, if_pos h0, if_pos (by omega)]
      by_cases hq : 1 ≤ rd x (clI K f t a n g s l)
      · rw [if_pos hq, if_pos (by omega), if_pos (by omega), iUnits_ev K f t a n g s l hl _ (by omega)]
        rfl
      · rw [if_neg hq, if_neg (by omega)]
    · rw [Bool.eq_false_iff.mpr hp]
      simp
  · rw [if_neg hc, if_neg hc]
    simp
theorem clone_ev (l : List Int) (hl : l.length ≤ 1048580) : slices_Clone_int_int.f l = some l := by
  unfold slices_Clone_int_int.f
  simp only [Option.bind_some, List.nil_append, List.length_nil]
  rw [if_pos (by omega)]
theorem copy_ev (x y : List Int) (hx : x.length ≤ 1048576) (hy : y.length ≤ 1048576) : impl_copyCredits.f x y = some (x, y) := by
  unfold impl_copyCredits.f
  rw [clone_ev x (by omega), clone_ev y (by omega)]
  rfl
theorem crB_parts {x y : List Int} (h : crB x y = true) : (x.length = 3 ∧ ∀ z ∈ x, 0 ≤ z ∧ z ≤ 30) ∧ (y.length = 3 ∧ ∀ z ∈ y, 0 ≤ z ∧ z ≤ 30) := by
  unfold crB areCr at h
  simp only [Bool.and_eq_true, decide_eq_true_eq] at h
  exact ⟨⟨h.1.1, fun z hz => of_decide_eq_true (List.all_eq_true.mp h.1.2 z hz)⟩, ⟨h.2.1, fun z hz => of_decide_eq_true (List.all_eq_true.mp h.2.2 z hz)⟩⟩
theorem crB_of {x y : List Int} (hx : x.length = 3) (hx2 : ∀ z ∈ x, 0 ≤ z ∧ z ≤ 30) (hy : y.length = 3) (hy2 : ∀ z ∈ y, 0 ≤ z ∧ z ≤ 30) : crB x y = true := by
  unfold crB areCr
  rw [decide_eq_true hx, decide_eq_true hy, show x.all credB = true from List.all_eq_true.mpr fun z hz => decide_eq_true (hx2 z hz), show y.all credB = true from List.all_eq_true.mpr fun z hz => decide_eq_true (hy2 z hz)]
  rfl
theorem rd_mem3 {x : List Int} (hx : x.length = 3) (i : Int) (h : 0 ≤ i ∧ i ≤ 2) : rd x i ∈ x := by
  obtain ⟨n, rfl⟩ := Int.eq_ofNat_of_zero_le h.1
  rw [rd_lt x n (by omega)]
  exact List.getElem_mem _
theorem rd_set (x : List Int) (i v : Int) (h : 0 ≤ i ∧ i < x.length) : rd (x.set i.toNat v) i = v := by
  obtain ⟨n, rfl⟩ := Int.eq_ofNat_of_zero_le h.1
  rw [show (n : Int).toNat = n from rfl, rd_lt _ n (by rw [List.length_set]; omega)]
  exact List.getElem_set_self _
theorem set_rd (x : List Int) (i : Int) (h : 0 ≤ i ∧ i < x.length) : x.set i.toNat (rd x i) = x := by
  obtain ⟨n, rfl⟩ := Int.eq_ofNat_of_zero_le h.1
  rw [show (n : Int).toNat = n from rfl, rd_lt x n (by omega)]
  exact List.set_getElem_self _
theorem un_range (K f t a n g s : Int) (l : List Int) (h : pkB K f t a n g s l = true) : 0 ≤ unI K f t a n g s l ∧ unI K f t a n g s l ≤ 5 := by
  have hq : pkQ K f t a n g s (l.all wordB) (l.length : Int) := of_decide_eq_true h
  unfold pkQ at hq
  have hq := hq.2.2
  unfold unI
  rw [if_pos h]
  omega
theorem sendB_yes (x y : List Int) (K f t a n g s : Int) (l : List Int) (h : sendB x y K f t a n g s l = true) : crB x y = true ∧ pkB K f t a n g s l = true ∧ 1 ≤ rd x (clI K f t a n g s l) ∧ unI K f t a n g s l ≤ rd y (clI K f t a n g s l) := by
  unfold sendB at h
  by_cases h1 : crB x y = true
  · rw [if_pos h1] at h
    by_cases h2 : pkB K f t a n g s l = true
    · rw [if_pos h2] at h
      by_cases h3 : 1 ≤ rd x (clI K f t a n g s l)
      · rw [if_pos h3] at h
        exact ⟨h1, h2, h3, of_decide_eq_true h⟩
      · rw [if_neg h3] at h; cases h
    · rw [if_neg h2] at h; cases h
  · rw [if_neg h1] at h; cases h
def spR (x y : List Int) (K f t a n g s : Int) (l : List Int) : List Int × List Int × Bool := if sendB x y K f t a n g s l = true then (x.set (clI K f t a n g s l).toNat (rd x (clI K f t a n g s l) - 1), y.set (clI K f t a n g s l).toNat (rd y (clI K f t a n g s l) - unI K f t a n g s l), true) else (x, y, false)
theorem iSpend_ev (x y : List Int) (K f t a n g s : Int) (l : List Int) (hx : x.length ≤ 1048576) (hy : y.length ≤ 1048576) (hl : l.length ≤ 1048576) (k : Nat) (hk : 1048600 < k) : impl_SpendCredits.f k x y K f t a n g s l = some (spR x y K f t a n g s l) := by
  unfold impl_SpendCredits.f spR
  rw [copy_ev x y hx hy]
  simp only [Option.bind_some]
  rw [iCanSend_ev x y K f t a n g s l hl k hk]
  simp only [Option.bind_some]
  by_cases h : sendB x y K f t a n g s l = true
  · obtain ⟨h1, h2, h3, h4⟩ := sendB_yes x y K f t a n g s l h
    obtain ⟨⟨g1, g2⟩, g3, g4⟩ := crB_parts h1
    have hr := cl_range K f t a n g s l
    have h0 := (clI_yes K f t a n g s l).1 h2
    have hu := un_range K f t a n g s l h2
    have q1 := g2 _ (rd_mem3 g1 (clI K f t a n g s l) (by omega))
    have q2 := g4 _ (rd_mem3 g3 (clI K f t a n g s l) (by omega))
    rw [if_pos h, if_pos h, iClassOf_ev K f t a n g s l hl k (by omega)]
    simp only [Option.bind_some]
    rw [if_pos h0, if_pos (by omega), if_pos (by omega), iUnits_ev K f t a n g s l hl k (by omega)]
    simp only [Option.bind_some]
    rw [wrap_id _ (by omega), wrap_id _ (by omega)]
  · rw [if_neg h, if_neg h]
def rtR (x y : List Int) (K f t a n g s : Int) (l : List Int) : List Int × List Int × Bool := if crB x y = true ∧ pkB K f t a n g s l = true then (if crB (x.set (clI K f t a n g s l).toNat (rd x (clI K f t a n g s l) + 1)) (y.set (clI K f t a n g s l).toNat (rd y (clI K f t a n g s l) + unI K f t a n g s l)) = true then (x.set (clI K f t a n g s l).toNat (rd x (clI K f t a n g s l) + 1), y.set (clI K f t a n g s l).toNat (rd y (clI K f t a n g s l) + unI K f t a n g s l), true) else (x, y, false)) else (x, y, false)
/-- Credits that are spent can be returned. -/
theorem spend_back (x y : List Int) (K f t a n g s : Int) (l : List Int) (h : sendB x y K f t a n g s l = true) : ∃ u v, spR x y K f t a n g s l = (u, v, true) ∧ crB u v = true ∧ rtR u v K f t a n g s l = (x, y, true) := by
  obtain ⟨h1, h2, h3, h4⟩ := sendB_yes x y K f t a n g s l h
  obtain ⟨⟨g1, g2⟩, g3, g4⟩ := crB_parts h1
  have hr := cl_range K f t a n g s l
  have h0 := (clI_yes K f t a n g s l).1 h2
  have hu := un_range K f t a n g s l h2
  have q1 := g2 _ (rd_mem3 g1 (clI K f t a n g s l) (by omega))
  have q2 := g4 _ (rd_mem3 g3 (clI K f t a n g s l) (by omega))
  have hc : crB (x.set (clI K f t a n g s l).toNat (rd x (clI K f t a n g s l) - 1)) (y.set (clI K f t a n g s l).toNat (rd y (clI K f t a n g s l) - unI K f t a n g s l)) = true := by
    refine crB_of (by rw [List.length_set]; exact g1) (fun z hz => ?_) (by rw [List.length_set]; exact g3) (fun z hz => ?_)
    · rcases List.mem_or_eq_of_mem_set hz with hz | rfl
      · exact g2 z hz
      · omega
    · rcases List.mem_or_eq_of_mem_set hz with hz | rfl
      · exact g4 z hz
      · omega
  refine ⟨_, _, by unfold spR; rw [if_pos h], hc, ?_⟩
  unfold rtR
  rw [if_pos ⟨hc, h2⟩, rd_set x _ _ (by omega), rd_set y _ _ (by omega), List.set_set, List.set_set, show rd x (clI K f t a n g s l) - 1 + 1 = rd x (clI K f t a n g s l) by omega, show rd y (clI K f t a n g s l) - unI K f t a n g s l + unI K f t a n g s l = rd y (clI K f t a n g s l) by omega, set_rd x _ (by omega), set_rd y _ (by omega), if_pos h1]

theorem iPk (k : Nat) (x : S60) (h : SmallQ x) (hk : 1048590 < k) : impl_IsPacket.f k x.f0 x.f1 x.f2 x.f3 x.f4 x.f5 x.f6 x.f7 = some (pkE x) := iIsPacket_ev x.f0 x.f1 x.f2 x.f3 x.f4 x.f5 x.f6 x.f7 h k (by omega)
theorem notPk (k : Nat) (x : S60) (h : SmallQ x) (hk : 1048590 < k) : impl_arePackets_1.f k x.f0 x.f1 x.f2 x.f3 x.f4 x.f5 x.f6 x.f7 = some (!pkE x) := by
  unfold impl_arePackets_1.f
  rw [iPk k x h hk]
  rfl
theorem cPk_l0 (l : List (S60)) (hl : l.length ≤ 1048576) (hs : ∀ x ∈ l, SmallQ x) (d : Nat) : ∀ i : Nat, i + d = l.length → ∀ k, 1048590 + d < k → ∃ r, slices_IndexFunc_impl_Packet_impl_Packet__impl_arePackets_1.l0 k l (l.length : Int) (i : Int) = some r ∧ decide (r ≥ 0) = (l.drop i).any (fun x => !pkE x) := by
  induction d with
  | zero =>
    intro i hi k hk
    obtain ⟨k, rfl⟩ : ∃ m, k = m + 1 := ⟨k - 1, by omega⟩
    refine ⟨-1, ?_, ?_⟩
    · simp only [slices_IndexFunc_impl_Packet_impl_Packet__impl_arePackets_1.l0]
      rw [if_neg (show ¬ (i : Int) < (l.length : Int) by omega)]
    · rw [drop_all l i (by omega)]; rfl
  | succ d ih =>
    intro i hi k hk
    obtain ⟨k, rfl⟩ : ∃ m, k = m + 1 := ⟨k - 1, by omega⟩
    have hlt : i < l.length := by omega
    simp only [slices_IndexFunc_impl_Packet_impl_Packet__impl_arePackets_1.l0]
    rw [if_pos (show (i : Int) < (l.length : Int) by omega), if_pos (show (0 : Int) ≤ (i : Int) by omega), if_pos (show (i : Int) < (l.length : Int) by omega), rdQ_lt l i hlt, notPk k l[i] (hs _ (List.getElem_mem hlt)) (by omega)]
    simp only [Option.bind_some]
    by_cases hp : (fun x => !pkE x) l[i] = true
    · rw [if_pos hp]
      exact ⟨_, rfl, by rw [any_drop_yes l i hlt _ hp, decide_eq_true (by omega)]⟩
    · rw [if_neg hp, wrap_succ i (by omega)]
      obtain ⟨r, h1, h2⟩ := ih (i + 1) (by omega) k (by omega)
      exact ⟨r, h1, by rw [h2, any_drop_no l i hlt _ hp]⟩
theorem cPk_ev (l : List (S60)) (hl : l.length ≤ 1048576) (hs : ∀ x ∈ l, SmallQ x) (k : Nat) (hk : 1048590 + l.length < k) : slices_ContainsFunc_impl_Packet_impl_Packet__impl_arePackets_1.f k l = some (l.any (fun x => !pkE x)) := by
  obtain ⟨r, h1, h2⟩ := cPk_l0 l hl hs l.length 0 (by omega) k hk
  unfold slices_ContainsFunc_impl_Packet_impl_Packet__impl_arePackets_1.f slices_IndexFunc_impl_Packet_impl_Packet__impl_arePackets_1.f
  have c0 : ((0 : Nat) : Int) = 0 := rfl
  rw [c0] at h1
  rw [h1]
  simp only [Option.bind_some]
  rw [h2]; rfl
theorem iArePackets_ev (l : List S60) (hl : l.length ≤ 1048576) (hs : ∀ x ∈ l, SmallQ x) (k : Nat) (hk : 2097170 < k) : impl_arePackets.f k l = some (l.all pkE) := by
  unfold impl_arePackets.f
  rw [cPk_ev l hl hs k (by omega)]
  simp only [Option.bind_some]
  rw [any_not]

def quB (p : List S60) (u v : List Int) (q : List S60) : Bool := p.all pkE && (q.all pkE && (decide (p.length ≤ 12) && (decide (q.length ≤ 1000) && crB u v)))
theorem iQueueOk_ev (p : List S60) (u v : List Int) (q : List S60) (hp : p.length ≤ 1048576) (hsp : ∀ x ∈ p, SmallQ x) (hq : q.length ≤ 1048576) (hsq : ∀ x ∈ q, SmallQ x) (k : Nat) (hk : 3145800 < k) : impl_QueueOk.f k p u v q = some (quB p u v q) := by
  unfold impl_QueueOk.f quB
  rw [iArePackets_ev p hp hsp k (by omega), iArePackets_ev q hq hsq k (by omega), iCreditsOk_ev u v k (by omega)]
  simp only [Option.bind_some]
  by_cases h1 : p.length ≤ 12
  · rw [if_pos (by omega), decide_eq_true h1]
    by_cases h2 : q.length ≤ 1000
    · rw [if_pos (by omega), decide_eq_true h2]
      cases p.all pkE <;> cases q.all pkE <;> cases crB u v <;> rfl
    · rw [if_neg (by omega), decide_eq_false h2]
      cases p.all pkE <;> cases q.all pkE <;> cases crB u v <;> rfl
  · rw [if_neg (by omega), decide_eq_false h1]
    cases p.all pkE <;> cases q.all pkE <;> simp

/-- What is a packet, and may not be passed by the other. -/
def stopB (x p : S60) : Bool := if pkE p = true then !(mayE x p) else false
def pB (l : List S60) (i : Int) : Bool := if pkE (rd_T60 l i) = true then !((l.take i.toNat).any (stopB (rd_T60 l i))) else false
theorem stop_ev (x p : S60) (hx : SmallQ x) (hp : SmallQ p) (k : Nat) (hk : 1048600 < k) : impl_passes_1.f k x p.f0 p.f1 p.f2 p.f3 p.f4 p.f5 p.f6 p.f7 = some (stopB x p) := by
  unfold impl_passes_1.f stopB
  rw [iPk k p hp (by omega)]
  simp only [Option.bind_some]
  by_cases h : pkE p = true
  · rw [if_pos h, if_pos h, iMay k x p hx hp (by omega)]
    rfl
  · rw [if_neg h, if_neg h]
theorem ix_l0 (x : S60) (hx : SmallQ x) (l : List S60) (hl : l.length ≤ 1048576) (hs : ∀ y ∈ l, SmallQ y) (d : Nat) : ∀ i : Nat, i + d = l.length → ∀ k, 1048600 + d < k → ∃ r, impl_passes_ix.l0 k l x (l.length : Int) (i : Int) = some r ∧ decide (r ≥ 0) = (l.drop i).any (stopB x) := by
  induction d with
  | zero =>
    intro i hi k hk
    obtain ⟨k, rfl⟩ : ∃ m, k = m + 1 := ⟨k - 1, by omega⟩
    refine ⟨-1, ?_, ?_⟩
    · simp only [impl_passes_ix.l0]
      rw [if_neg (by omega)]
    · rw [drop_all l i (by omega)]; rfl
  | succ d ih =>
    intro i hi k hk
    obtain ⟨k, rfl⟩ : ∃ m, k = m + 1 := ⟨k - 1, by omega⟩
    have hlt : i < l.length := by omega
    have hr : rd_T60 l (i : Int) = l[i] := rdT_lt l i hlt
    have hw := stop_ev x l[i] hx (hs _ (List.getElem_mem hlt)) k (by omega)
    simp only [impl_passes_ix.l0]
    rw [if_pos (by omega), if_pos (by omega), if_pos (by omega), hr, hw]
    simp only [Option.bind_some]
    by_cases h : stopB x l[i] = true
    · refine ⟨(i : Int), by rw [if_pos h], ?_⟩
      rw [any_drop_yes l i hlt _ h]
      exact decide_eq_true (by omega)
    · obtain ⟨r, h1, h2⟩ := ih (i + 1) (by omega) k (by omega)
      refine ⟨r, by rw [if_neg h, wrap_succ i (by omega)]; exact h1, ?_⟩
      rw [any_drop_no l i hlt _ h]
      exact h2
theorem has_stop (x : S60) (hx : SmallQ x) (l : List S60) (hl : l.length ≤ 1048576) (hs : ∀ y ∈ l, SmallQ y) (k : Nat) (hk : 2097200 < k) : impl_passes_has.f k l x = some (l.any (stopB x)) := by
  unfold impl_passes_has.f impl_passes_ix.f
  obtain ⟨r, h1, h2⟩ := ix_l0 x hx l hl hs l.length 0 (by omega) k (by omega)
  have c0 : ((0 : Nat) : Int) = 0 := rfl
  rw [c0] at h1
  rw [h1]
  simp only [Option.bind_some]
  rw [h2, List.drop_zero]
theorem passes_ev (l : List S60) (hl : l.length ≤ 1048576) (hs : ∀ y ∈ l, SmallQ y) (i : Nat) (hi : i < l.length) (k : Nat) (hk : 2097200 < k) : impl_passes.f k l (i : Int) = some (pB l (i : Int)) := by
  have hr : rd_T60 l (i : Int) = l[i] := rdT_lt l i hi
  have hx := hs _ (List.getElem_mem hi)
  unfold impl_passes.f pB
  rw [if_pos (by omega), if_pos (by omega), hr, iPk k l[i] hx (by omega), toNat_nat]
  simp only [Option.bind_some]
  by_cases h : pkE l[i] = true
  · rw [if_pos h, if_pos h, has_stop l[i] hx (l.take i) (by rw [List.length_take]; omega) (fun y hy => hs y (List.mem_of_mem_take hy)) k hk]
    rfl
  · rw [if_neg h, if_neg h]
/-- The places that may go, of the first n. -/
def passL (l : List S60) : Nat → List Int
  | 0 => []
  | n + 1 => passL l n ++ (if pB l (n : Int) = true then [(n : Int)] else [])
theorem passL_len (l : List S60) (n : Nat) : (passL l n).length ≤ n := by
  induction n with
  | zero => simp [passL]
  | succ n ih =>
    simp only [passL, List.length_append]
    split <;> simp <;> omega
theorem passL_mem (l : List S60) (n : Nat) : ∀ x ∈ passL l n, ∃ i : Nat, x = (i : Int) ∧ i < n ∧ pB l (i : Int) = true := by
  induction n with
  | zero => intro x hx; simp [passL] at hx
  | succ n ih =>
    intro x hx
    simp only [passL, List.mem_append] at hx
    rcases hx with hx | hx
    · obtain ⟨i, h1, h2, h3⟩ := ih x hx
      exact ⟨i, h1, by omega, h3⟩
    · by_cases h : pB l (n : Int) = true
      · rw [if_pos h] at hx
        exact ⟨n, List.mem_singleton.1 hx, by omega, h⟩
      · rw [if_neg h] at hx; simp at hx
theorem iPassers_l0 (l : List S60) (hl : l.length ≤ 1048576) (hs : ∀ y ∈ l, SmallQ y) (d : Nat) : ∀ i : Nat, i + d = l.length → ∀ k, 2097200 + d < k → impl_PassersOf.l0 k l (passL l i) (l.length : Int) (i : Int) = some (passL l l.length) := by
  induction d with
  | zero =>
    intro i hi k hk
    obtain ⟨k, rfl⟩ : ∃ m, k = m + 1 := ⟨k - 1, by omega⟩
    simp only [impl_PassersOf.l0]
    rw [if_neg (by omega), show i = l.length by omega]
  | succ d ih =>
    intro i hi k hk
    obtain ⟨k, rfl⟩ : ∃ m, k = m + 1 := ⟨k - 1, by omega⟩
    have hn := passL_len l i
    have ih := ih (i + 1) (by omega) k (by omega)
    simp only [impl_PassersOf.l0]
    rw [if_pos (by omega), passes_ev l hl hs i (by omega) k (by omega), wrap_succ i (by omega)]
    simp only [Option.bind_some]
    simp only [passL] at ih
    by_cases h : pB l (i : Int) = true
    · rw [if_pos h] at ih ⊢
      rw [if_pos (by omega)]
      exact ih
    · rw [if_neg h] at ih ⊢
      rw [List.append_nil] at ih
      exact ih
theorem iPassers_ev (l : List S60) (hl : l.length ≤ 1048576) (hs : ∀ y ∈ l, SmallQ y) (k : Nat) (hk : 3145800 < k) : impl_PassersOf.f k l = some (passL l l.length) := by
  unfold impl_PassersOf.f
  exact iPassers_l0 l hl hs l.length 0 (by omega) k (by omega)
/-- Who passes may pass every packet before it. -/
theorem pB_may (l : List S60) (hp : ∀ x ∈ l, pkE x = true) (i : Nat) (hi : i < l.length) (h : pB l (i : Int) = true) (j : Nat) (hj : j < i) : mayE (rd_T60 l (i : Int)) (rd_T60 l (j : Int)) = true := by
  have hr : rd_T60 l (j : Int) = l[j] := rdT_lt l j (by omega)
  unfold pB at h
  split at h
  · rw [toNat_nat, Bool.not_eq_true', List.any_eq_false] at h
    have h1 := h l[j] (List.mem_take_iff_getElem.2 ⟨j, by omega, rfl⟩)
    unfold stopB at h1
    rw [if_pos (hp _ (List.getElem_mem (by omega)))] at h1
    rw [hr]
    simpa using h1
  · cases h
theorem equal_l0 (a b : List Int) (hl : a.length = b.length) (hb : a.length < 9223372036854775807) (d : Nat) : ∀ (i : Nat), i + d = a.length → ∀ k, d < k → slices_Equal_int_int.l0 k a b (((a.length : Nat) : Int)) (i : Int) = some (decide (a.drop i = b.drop i)) := by
  induction d with
  | zero =>
    intro i hi k hk
    obtain ⟨k, rfl⟩ : ∃ m, k = m + 1 := ⟨k - 1, by omega⟩
    simp only [slices_Equal_int_int.l0]
    rw [if_neg (show ¬ (i : Int) < (a.length : Int) by omega), drop_all a i (by omega), drop_all b i (by omega)]
    simp
  | succ d ih =>
    intro i hi k hk
    obtain ⟨k, rfl⟩ : ∃ m, k = m + 1 := ⟨k - 1, by omega⟩
    simp only [slices_Equal_int_int.l0]
    rw [if_pos (show (i : Int) < (a.length : Int) by omega), if_pos (show (0 : Int) ≤ (i : Int) by omega), if_pos (show (i : Int) < (a.length : Int) by omega), if_pos (show (i : Int) < (b.length : Int) by omega)]
    by_cases he : rd a (i : Int) = rd b (i : Int)
    · rw [if_pos he, wrap_succ i (by omega), ih (i + 1) (by omega) k (by omega)]
      congr 1
      rw [decide_eq_decide, drop_eq_iff a b i (by omega) (by omega)]
      exact ⟨fun h => ⟨he, h⟩, fun h => h.2⟩
    · rw [if_neg he]
      congr 1
      symm
      rw [decide_eq_false_iff_not, drop_eq_iff a b i (by omega) (by omega)]
      exact fun h => he h.1
theorem equal_ev (a b : List Int) (hb : a.length < 9223372036854775807) : ∀ k, a.length < k → slices_Equal_int_int.f k a b = some (decide (a = b)) := by
  intro k hk
  unfold slices_Equal_int_int.f
  by_cases hl : a.length = b.length
  · rw [if_pos (by omega)]
    exact equal_l0 a b hl hb a.length 0 (by omega) k hk
  · rw [if_neg (by omega), decide_eq_false (fun h => hl (by rw [h]))]
def sendE (u v : List Int) (x : S60) : Bool := sendB u v x.f0 x.f1 x.f2 x.f3 x.f4 x.f5 x.f6 x.f7
theorem iSendE (u v : List Int) (x : S60) (h : SmallQ x) (k : Nat) (hk : 1048600 < k) : impl_CanSend.f k u v x.f0 x.f1 x.f2 x.f3 x.f4 x.f5 x.f6 x.f7 = some (sendE u v x) := iCanSend_ev u v x.f0 x.f1 x.f2 x.f3 x.f4 x.f5 x.f6 x.f7 h k hk
theorem rdE_mem (l : List S60) (i : Nat) (hi : i < l.length) : rd_T60 l (i : Int) = l[i] := rdT_lt l i hi
theorem getL_lt (l : List Int) (i : Nat) (hi : i < l.length) : rd l (i : Int) = l[i] := rd_lt l i hi
def nxL (l : List S60) (u v : List Int) : List Int → Int
  | [] => -1
  | i :: r => if sendE u v (rd_T60 l i) = true then i else nxL l u v r
def nxI (l : List S60) (u v : List Int) : Int := nxL l u v (passL l l.length)
theorem next_l0 (l : List S60) (u v : List Int) (s : List S60) (hs : ∀ x ∈ l, SmallQ x) (P : List Int) (hP : P.length ≤ 1048576) (hm : ∀ x ∈ P, ∃ n : Nat, x = (n : Int) ∧ n < l.length) (d : Nat) : ∀ i : Nat, i + d = P.length → ∀ k, 1048600 + d < k → impl_Queue_next.l0 k P (P.length : Int) (i : Int) l u v s = some (nxL l u v (P.drop i)) := by
  induction d with
  | zero =>
    intro i hi k hk
    obtain ⟨k, rfl⟩ : ∃ m, k = m + 1 := ⟨k - 1, by omega⟩
    simp only [impl_Queue_next.l0]
    rw [if_neg (by omega), List.drop_eq_nil_of_le (by omega)]
    rfl
  | succ d ih =>
    intro i hi k hk
    obtain ⟨k, rfl⟩ : ∃ m, k = m + 1 := ⟨k - 1, by omega⟩
    have hlt : i < P.length := by omega
    obtain ⟨n, hn, hnl⟩ := hm P[i] (List.getElem_mem hlt)
    simp only [impl_Queue_next.l0]
    rw [if_pos (show (i : Int) < (P.length : Int) by omega), if_pos (show (0 : Int) ≤ (i : Int) by omega), if_pos (show (i : Int) < (P.length : Int) by omega), getL_lt P i hlt, hn, if_pos (show (0 : Int) ≤ (n : Int) by omega), if_pos (show (n : Int) < (l.length : Int) by omega), iSendE u v _ (by rw [rdE_mem l n hnl]; exact hs _ (List.getElem_mem hnl)) k (by omega)]
    simp only [Option.bind_some]
    rw [List.drop_eq_getElem_cons hlt, hn]
    unfold nxL
    by_cases h : sendE u v (rd_T60 l (n : Int)) = true
    · rw [if_pos h, if_pos h]
    · rw [if_neg h, if_neg h, wrap_succ i (by omega)]
      exact ih (i + 1) (by omega) k (by omega)
theorem next_ev (l : List S60) (hl : l.length ≤ 1048576) (hs : ∀ x ∈ l, SmallQ x) (u v : List Int) (s : List S60) (k : Nat) (hk : 3145800 < k) : impl_Queue_next.f k l u v s = some (nxI l u v) := by
  unfold impl_Queue_next.f nxI
  rw [iPassers_ev l hl hs k hk]
  simp only [Option.bind_some]
  have hp := passL_len l l.length
  have h := next_l0 l u v s hs (passL l l.length) (by omega) (fun x hx => by obtain ⟨n, h1, h2, _⟩ := passL_mem l l.length x hx; exact ⟨n, h1, h2⟩) (passL l l.length).length 0 (by omega) k (by omega)
  have c0 : ((0 : Nat) : Int) = 0 := rfl
  rw [c0] at h
  rw [h, List.drop_zero]
theorem nxL_spec (l : List S60) (u v : List Int) (P : List Int) : nxL l u v P = -1 ∨ (nxL l u v P ∈ P ∧ sendE u v (rd_T60 l (nxL l u v P)) = true) := by
  induction P with
  | nil => exact .inl rfl
  | cons a r ih =>
    unfold nxL
    by_cases h : sendE u v (rd_T60 l a) = true
    · rw [if_pos h]
      exact .inr ⟨List.mem_cons_self, h⟩
    · rw [if_neg h]
      rcases ih with ih | ih
      · exact .inl ih
      · exact .inr ⟨List.mem_cons_of_mem _ ih.1, ih.2⟩
theorem nxI_spec (l : List S60) (u v : List Int) : nxI l u v = -1 ∨ ∃ n : Nat, nxI l u v = (n : Int) ∧ n < l.length ∧ pB l (n : Int) = true ∧ sendE u v (rd_T60 l (n : Int)) = true := by
  rcases nxL_spec l u v (passL l l.length) with h | h
  · exact .inl h
  · obtain ⟨n, h1, h2, h3⟩ := passL_mem l l.length _ h.1
    exact .inr ⟨n, h1, h2, h3, by rw [← h1]; exact h.2⟩
theorem quB_parts {p : List S60} {u v : List Int} {q : List S60} (h : quB p u v q = true) : (∀ x ∈ p, pkE x = true) ∧ (∀ x ∈ q, pkE x = true) ∧ p.length ≤ 12 ∧ q.length ≤ 1000 ∧ crB u v = true := by
  unfold quB at h
  simp only [Bool.and_eq_true, decide_eq_true_eq, List.all_eq_true] at h
  exact ⟨h.1, h.2.1, h.2.2.1, h.2.2.2.1, h.2.2.2.2⟩
theorem quB_of {p : List S60} {u v : List Int} {q : List S60} (h : (∀ x ∈ p, pkE x = true) ∧ (∀ x ∈ q, pkE x = true) ∧ p.length ≤ 12 ∧ q.length ≤ 1000 ∧ crB u v = true) : quB p u v q = true := by
  unfold quB
  simp only [Bool.and_eq_true, decide_eq_true_eq, List.all_eq_true]
  exact ⟨h.1, h.2.1, h.2.2.1, h.2.2.2.1, h.2.2.2.2⟩
theorem forward_yes (l : List S60) (u v : List Int) (s : List S60) (hq : quB l u v s = true) (n : Nat) (h : nxI l u v = (n : Int)) (hn : n < l.length) (hsd : sendE u v (rd_T60 l (n : Int)) = true) (hs : s.length < 1000) : ∃ u' v', quB (l.eraseIdx n) u' v' (s ++ [l[n]]) = true ∧ ∀ k, 3145800 < k → impl_Queue_forward.f k l u v s = some (l.eraseIdx n, u', v', s ++ [l[n]], true) := by
  obtain ⟨h1, h2, h3, h4, h5⟩ := quB_parts hq
  have hx := rdE_mem l n hn
  obtain ⟨u', v', e1, e2, _⟩ := spend_back u v (rd_T60 l (n : Int)).f0 (rd_T60 l (n : Int)).f1 (rd_T60 l (n : Int)).f2 (rd_T60 l (n : Int)).f3 (rd_T60 l (n : Int)).f4 (rd_T60 l (n : Int)).f5 (rd_T60 l (n : Int)).f6 (rd_T60 l (n : Int)).f7 hsd
  have hcl := crB_len h5
  refine ⟨u', v', quB_of ⟨fun x hx => h1 x (List.mem_of_mem_eraseIdx hx), fun x hx => ?_, by rw [List.length_eraseIdx_of_lt hn]; omega, by simp; omega, e2⟩, fun k hk => ?_⟩
  · rcases List.mem_append.1 hx with hx | hx
    · exact h2 x hx
    · rw [List.mem_singleton.1 hx]; exact h1 _ (List.getElem_mem hn)
  · unfold impl_Queue_forward.f
    rw [next_ev l (by omega) (fun x hx => pkE_small x (h1 x hx)) u v s k hk]
    simp only [Option.bind_some]
    rw [h, if_neg (by omega), if_neg (by omega), if_pos (by omega), iSpend_ev u v (rd_T60 l (n : Int)).f0 (rd_T60 l (n : Int)).f1 (rd_T60 l (n : Int)).f2 (rd_T60 l (n : Int)).f3 (rd_T60 l (n : Int)).f4 (rd_T60 l (n : Int)).f5 (rd_T60 l (n : Int)).f6 (rd_T60 l (n : Int)).f7 (by omega) (by omega) (by rw [hx]; exact pkE_small _ (h1 _ (List.getElem_mem hn))) k (by omega), e1]
    simp only [Option.bind_some]
    rw [if_pos (by omega), hx]
    rfl
theorem cpP (x : S60) (h : SmallQ x) : impl_copyPacket.f x.f0 x.f1 x.f2 x.f3 x.f4 x.f5 x.f6 x.f7 = some (x.f0, x.f1, x.f2, x.f3, x.f4, x.f5, x.f6, x.f7) := by
  have h' : x.f7.length ≤ 1048576 := h
  unfold impl_copyPacket.f
  rw [clone_ev x.f7 (by omega)]
  rfl
theorem cpPs_l0 (l : List S60) (hl : l.length ≤ 1048576) (hs : ∀ x ∈ l, SmallQ x) (d : Nat) : ∀ i : Nat, i + d = l.length → ∀ k, d < k → impl_copyPackets.l0 k (l.take i) l (l.length : Int) (i : Int) = some l := by
  induction d with
  | zero =>
    intro i hi k hk
    obtain ⟨k, rfl⟩ : ∃ m, k = m + 1 := ⟨k - 1, by omega⟩
    simp only [impl_copyPackets.l0]
    rw [if_neg (by omega), List.take_of_length_le (by omega)]
  | succ d ih =>
    intro i hi k hk
    obtain ⟨k, rfl⟩ : ∃ m, k = m + 1 := ⟨k - 1, by omega⟩
    have hlt : i < l.length := by omega
    simp only [impl_copyPackets.l0]
    rw [if_pos (show (i : Int) < (l.length : Int) by omega), if_pos (show (0 : Int) ≤ (i : Int) by omega), if_pos (show (i : Int) < (l.length : Int) by omega), rdE_mem l i hlt, cpP l[i] (hs _ (List.getElem_mem hlt))]
    simp only [Option.bind_some]
    rw [if_pos (by rw [List.length_take]; omega), wrap_succ i (by omega)]
    have e := ih (i + 1) (by omega) k (by omega)
    rw [List.take_succ_eq_append_getElem hlt] at e
    exact e
theorem cpPs_ev (l : List S60) (hl : l.length ≤ 1048576) (hs : ∀ x ∈ l, SmallQ x) (k : Nat) (hk : 1048580 < k) : impl_copyPackets.f k l = some l := cpPs_l0 l hl hs l.length 0 (by omega) k (by omega)
theorem cpQ_ev (l : List S60) (u v : List Int) (s : List S60) (hq : quB l u v s = true) (k : Nat) (hk : 1048580 < k) : impl_copyQueue.f k l u v s = some (l, u, v, s) := by
  obtain ⟨h1, h2, h3, h4, h5⟩ := quB_parts hq
  have hcl := crB_len h5
  unfold impl_copyQueue.f
  rw [cpPs_ev l (by omega) (fun x hx => pkE_small x (h1 x hx)) k hk, copy_ev u v (by omega) (by omega), cpPs_ev s (by omega) (fun x hx => pkE_small x (h2 x hx)) k hk]
  rfl
theorem quOk_ev (l : List S60) (u v : List Int) (s : List S60) (hq : quB l u v s = true) (k : Nat) (hk : 3145800 < k) : impl_QueueOk.f k l u v s = some true := by
  obtain ⟨h1, h2, h3, h4, h5⟩ := quB_parts hq
  rw [iQueueOk_ev l u v s (by omega) (fun x hx => pkE_small x (h1 x hx)) (by omega) (fun x hx => pkE_small x (h2 x hx)) k hk, hq]
theorem nextOut_ev (l : List S60) (u v : List Int) (s : List S60) (hq : quB l u v s = true) (k : Nat) (hk : 3145800 < k) : impl_NextOut.f k l u v s = some (nxI l u v) := by
  obtain ⟨h1, h2, h3, h4, h5⟩ := quB_parts hq
  unfold impl_NextOut.f
  rw [quOk_ev l u v s hq k hk]
  simp only [Option.bind_some, if_true]
  rw [next_ev l (by omega) (fun x hx => pkE_small x (h1 x hx)) u v s k hk]
  rfl
theorem fnext_ev (l : List S60) (u v : List Int) (s : List S60) (hq : quB l u v s = true) (k : Nat) (hk : 3145800 < k) : impl_ForwardNext.f k l u v s = impl_Queue_forward.f k l u v s := by
  unfold impl_ForwardNext.f
  rw [cpQ_ev l u v s hq k (by omega), quOk_ev l u v s hq k hk]
  simp only [Option.bind_some, if_true]
theorem cred_l0 (l : List Int) (d : Nat) : ∀ (n : Nat) (x y : List Int) (i h : Int), n + d = 3 → x.length = n → y.length = n → x.all credB = true → y.all credB = true → CurOk l i → ∃ x' y' i' h', crB x' y' = true ∧ ∀ k, d < k → spec_l14Credits.l0 k (n : Int) l i h x y = some (x', y', i', h') := by
  induction d with
  | zero =>
    intro n x y i h hn hx hy ax ay hc
    refine ⟨x, y, i, h, ?_, fun k hk => ?_⟩
    · unfold crB areCr
      rw [ax, ay, decide_eq_true (show x.length = 3 by omega), decide_eq_true (show y.length = 3 by omega)]
      rfl
    · obtain ⟨k, rfl⟩ : ∃ m, k = m + 1 := ⟨k - 1, by omega⟩
      simp only [spec_l14Credits.l0]
      rw [if_neg (by omega)]
  | succ d ih =>
    intro n x y i h hn hx hy ax ay hc
    obtain ⟨a, i1, h1, e1, m1, hc1⟩ := pick_ok l i h [1, 2, 4, 0, 30] hc (by simp)
    obtain ⟨b, i2, h2, e2, m2, hc2⟩ := pick_ok l i1 h1 [2, 4, 0, 1, 30] hc1 (by simp)
    have ca : credB a = true := by
      simp only [List.mem_cons, List.not_mem_nil, or_false] at m1
      unfold credB; apply decide_eq_true; omega
    have cb : credB b = true := by
      simp only [List.mem_cons, List.not_mem_nil, or_false] at m2
      unfold credB; apply decide_eq_true; omega
    obtain ⟨x', y', i', h', g1, g3⟩ := ih (n + 1) (x ++ [a]) (y ++ [b]) i2 h2 (by omega) (by simp [hx]) (by simp [hy]) (by simp [List.all_append, ax, ca]) (by simp [List.all_append, ay, cb]) hc2
    refine ⟨x', y', i', h', g1, fun k hk => ?_⟩
    obtain ⟨k, rfl⟩ : ∃ m, k = m + 1 := ⟨k - 1, by omega⟩
    simp only [spec_l14Credits.l0]
    rw [if_pos (by omega), e1]
    simp only [Option.bind_some]
    rw [if_pos (by omega), e2]
    simp only [Option.bind_some]
    rw [if_pos (by omega), wrap_succ n (by omega)]
    exact g3 k (by omega)
theorem waiting_ok (l : List Int) (hl : (l.length : Int) ≤ 140737488351232) : ∃ (q : List S60) (u v : List Int), q.length ≤ 6 ∧ quB q u v [] = true ∧ ∀ k, 4000 < k → spec_DrawWaiting.f k l = some (q, u, v, []) := by
  obtain ⟨h, e0⟩ := new_ok l
  obtain ⟨q, i1, h1, q1, q2, hc1, e1⟩ := queue_ok l 0 h ⟨by omega, by omega, hl⟩
  obtain ⟨x, y, i', h', g1, g3⟩ := cred_l0 l 3 0 [] [] i1 h1 (by omega) rfl rfl rfl rfl hc1
  refine ⟨q, x, y, q1, quB_of ⟨q2, fun x hx => (List.not_mem_nil hx).elim, by omega, by simp, g1⟩, fun k hk => ?_⟩
  unfold spec_DrawWaiting.f spec_l17Queue.f spec_l14Credits.f
  rw [e0 k hk]
  simp only [Option.bind_some]
  rw [e1 k (by omega)]
  simp only [Option.bind_some]
  have g := g3 k (by omega)
  have c0 : ((0 : Nat) : Int) = 0 := rfl
  rw [c0] at g
  rw [g]
  rfl
theorem pw_move {R : Int → Int → Prop} (O A C : List Int) (m : Int) (h : (O ++ (A ++ m :: C)).Pairwise R) (hm : ∀ a ∈ A, R m a) : ((O ++ [m]) ++ (A ++ C)).Pairwise R := by
  rw [List.pairwise_append] at h
  obtain ⟨h1, h2, h3⟩ := h
  rw [List.pairwise_append, List.pairwise_cons] at h2
  obtain ⟨h4, ⟨h5, h6⟩, h7⟩ := h2
  rw [List.pairwise_append, List.pairwise_append, List.pairwise_append]
  refine ⟨⟨h1, List.pairwise_singleton _ _, fun a ha b hb => ?_⟩, ⟨h4, h6, fun a ha b hb => h7 a ha b (List.mem_cons_of_mem _ hb)⟩, fun a ha b hb => ?_⟩
  · rw [List.mem_singleton.1 hb]
    exact h3 a ha m (List.mem_append_right _ List.mem_cons_self)
  · rcases List.mem_append.1 ha with ha | ha
    · rcases List.mem_append.1 hb with hb | hb
      · exact h3 a ha b (List.mem_append_left _ hb)
      · exact h3 a ha b (List.mem_append_right _ (List.mem_cons_of_mem _ hb))
    · rw [List.mem_singleton.1 ha]
      rcases List.mem_append.1 hb with hb | hb
      · exact hm b hb
      · exact h5 b hb
theorem legal_of (p : List S60) (r : List Int) : ∀ pre : List Int, (∀ v ∈ r, inB p.length v = true) → (pre ++ r).Pairwise (· ≠ ·) → (pre ++ r).Pairwise (fun y v => jB p v y = true) → legalB p pre r = true := by
  induction r with
  | nil => intro pre _ _ _; rfl
  | cons v r ih =>
    intro pre h1 h2 h3
    unfold legalB
    have a2 := h2
    have a3 := h3
    rw [List.pairwise_append] at a2 a3
    have e : (pre ++ [v]) ++ r = pre ++ v :: r := by simp
    have g1 : v ∉ pre := fun hv => a2.2.2 v hv v List.mem_cons_self rfl
    have g2 : pre.all (jB p v) = true := List.all_eq_true.2 (fun y hy => a3.2.2 y hy v List.mem_cons_self)
    rw [h1 v List.mem_cons_self, decide_eq_false g1, g2, ih (pre ++ [v]) (fun x hx => h1 x (List.mem_cons_of_mem _ hx)) (by rw [e]; exact h2) (by rw [e]; exact h3)]
    rfl
def idQ (n : Nat) : List Int := (List.range n).map fun (i : Nat) => (i : Int)
theorem idQ_length (n : Nat) : (idQ n).length = n := by simp [idQ]
theorem idQ_succ (n : Nat) : idQ (n + 1) = idQ n ++ [(n : Int)] := by simp [idQ, List.range_succ]
theorem idQ_get (n i : Nat) (h : i < (idQ n).length) : (idQ n)[i] = (i : Int) := by simp [idQ]
theorem idQ_lt (n : Nat) (v : Int) (h : v ∈ idQ n) : 0 ≤ v ∧ v < (n : Int) := by
  unfold idQ at h
  obtain ⟨i, hi, rfl⟩ := List.mem_map.1 h
  have := List.mem_range.1 hi
  omega
theorem idQ_pw (n : Nat) : (idQ n).Pairwise (· < ·) := by
  induction n with
  | zero => exact List.Pairwise.nil
  | succ n ih =>
    rw [idQ_succ, List.pairwise_append]
    exact ⟨ih, List.pairwise_singleton _ _, fun a ha b hb => by rw [List.mem_singleton.1 hb]; exact (idQ_lt n a ha).2⟩
structure Inv (p : List S60) (L O : List Int) (W S : List S60) (u v : List Int) : Prop where
  q : quB W u v S = true
  w : W.length = L.length
  wl : ∀ (j : Nat) (h : j < L.length), ∃ h' : j < W.length, W[j] = rd_T60 p L[j]
  s : S.length = O.length
  n : O.length + L.length = p.length
  i : ∀ x ∈ O ++ L, inB p.length x = true
  d : (O ++ L).Pairwise (· ≠ ·)
  j : (O ++ L).Pairwise (fun y v => jB p v y = true)
theorem nx_nil (u v : List Int) : nxI ([] : List S60) u v = -1 := rfl
theorem same_pk (k : Nat) (x : S60) (h : SmallQ x) (hk : 1048580 < k) : impl_SamePacket.f k x.f0 x.f1 x.f2 x.f3 x.f4 x.f5 x.f6 x.f7 x.f0 x.f1 x.f2 x.f3 x.f4 x.f5 x.f6 x.f7 = some true := by
  have h' : x.f7.length ≤ 1048576 := h
  unfold impl_SamePacket.f
  rw [if_pos rfl, if_pos rfl, if_pos rfl, if_pos rfl, if_pos rfl, if_pos rfl, if_pos rfl, equal_ev x.f7 x.f7 (by omega) k (by omega)]
  simp
theorem fin_ev (p : List S60) (hp : p.length ≤ 6) (hpk : ∀ x ∈ p, pkE x = true) {L O : List Int} {W S : List S60} {u v : List Int} (h : Inv p L O W S u v) (hn : nxI W u v = -1) (k : Nat) (hk : 1099644300000 < k) :
    (impl_NextOut.f k W u v S).bind (fun t => (if t < 0 then (if (W.length : Int) = (L.length : Int) then (if O.length + L.length < 17592186044416 then ((impl_IsLegalOrder.f k p (O ++ L)).bind fun t510 => (some t510)) else (none)) else (some false)) else (some false))) = some true := by
  have hl := h.n
  rw [nextOut_ev W u v S h.q k (by omega), hn]
  simp only [Option.bind_some]
  rw [if_pos (by omega), if_pos (by rw [h.w]), if_pos (by omega), iOrder_ev p (by omega) (fun x hx => pkE_small x (hpk x hx)) (O ++ L) (by rw [List.length_append]; omega) k (by omega)]
  simp only [Option.bind_some]
  have e : decide ((O ++ L).length = p.length) = true := decide_eq_true (by rw [List.length_append]; omega)
  rw [legal_of p (O ++ L) [] h.i (by rw [List.nil_append]; exact h.d) (by rw [List.nil_append]; exact h.j), e]
  rfl
theorem law_l1 (p : List S60) (hp : p.length ≤ 6) (hpk : ∀ x ∈ p, pkE x = true) (d : Nat) : ∀ (c : Nat) (L O : List Int) (W S : List S60) (u v : List Int), c + d = p.length → O.length = c → Inv p L O W S u v → ∀ k, 1099644300010 + d < k → laws_FnQueues.l1 k p L O (c : Int) W u v S = some true := by
  induction d with
  | zero =>
    intro c L O W S u v hc hO h k hk
    obtain ⟨k, rfl⟩ : ∃ m, k = m + 1 := ⟨k - 1, by omega⟩
    rw [laws_FnQueues.l1]
    rw [if_neg (by omega)]
    have h0 : W = [] := List.eq_nil_of_length_eq_zero (by have := h.n; have := h.w; omega)
    exact fin_ev p hp hpk h (by rw [h0]; exact nx_nil u v) k (by omega)
  | succ d ih =>
    intro c L O W S u v hc hO h k hk
    obtain ⟨k, rfl⟩ : ∃ m, k = m + 1 := ⟨k - 1, by omega⟩
    rw [laws_FnQueues.l1]
    obtain ⟨w1, w2, w3, w4, w5⟩ := quB_parts h.q
    have hl := h.n
    rw [if_pos (by omega), nextOut_ev W u v S h.q k (by omega), Option.bind_some]
    rcases nxI_spec W u v with hn | ⟨t, h1, h2, h3, h4⟩
    · rw [hn, if_pos (by omega)]
      have e := fin_ev p hp hpk h hn k (by omega)
      rw [nextOut_ev W u v S h.q k (by omega), hn] at e
      exact e
    · have htL : t < L.length := by have := h.w; omega
      obtain ⟨u', v', g1, g2⟩ := forward_yes W u v S h.q t h1 h2 h4 (by have := h.s; omega)
      obtain ⟨X, hX, x1, x2, x3, x4, x5⟩ : ∃ X : List S60 × List Int × List Int × List S60 × Bool, (∀ k, 3145800 < k → impl_Queue_forward.f k W u v S = some X) ∧ X.1 = W.eraseIdx t ∧ X.2.1 = u' ∧ X.2.2.1 = v' ∧ X.2.2.2.1 = S ++ [W[t]] ∧ X.2.2.2.2 = true := ⟨_, g2, rfl, rfl, rfl, rfl, rfl⟩
      have hLt : rd L (t : Int) = L[t] := getL_lt L t htL
      have hin := h.i L[t] (List.mem_append_right _ (List.getElem_mem htL))
      unfold inB at hin
      have hin := of_decide_eq_true hin
      obtain ⟨h5, h6⟩ := h.wl t htL
      have hs1 : (S ++ [W[t]]).length = O.length + 1 := by simp [h.s]
      have hrs : rd_T60 (S ++ [W[t]]) (O.length : Int) = W[t] := by
        rw [rdE_mem _ O.length (by omega)]
        simp [h.s]
      have hwf : ∀ n : Nat, n ≤ 1000 → wrap64 ((n : Int) + 1) = ((n + 1 : Nat) : Int) := fun n hn => wrap_succ n (by omega)
      have hle : O.length ≤ 6 ∧ L.length ≤ 6 := by omega
      rw [h1, if_neg (by omega), fnext_ev W u v S h.q k (by omega), hX k (by omega), Option.bind_some, x1, x2, x3, x4, x5, if_pos rfl, if_neg (by omega), if_pos (by rw [hs1, hwf O.length (by omega)]), if_pos (by omega), if_pos (by rw [hs1]; omega), if_pos (by omega), if_pos (by omega), hLt, if_pos (by omega), if_pos (by omega), hrs, ← h6, same_pk k _ (pkE_small _ (w1 _ (List.getElem_mem h2))) (by omega), Option.bind_some, if_pos rfl, quOk_ev _ _ _ _ g1 k (by omega), Option.bind_some, if_pos rfl]
      rw [if_pos (by omega), Option.bind_some, if_pos (by omega), Option.bind_some, toNat_nat, if_pos (by simp only [List.length_nil, List.length_take]; omega), Option.bind_some, hwf t (by omega), if_pos (by omega), if_pos (by omega), Option.bind_some, toNat_nat, if_pos (by simp only [List.nil_append, List.length_take, List.length_drop]; omega), hwf c (by omega), List.nil_append]
      have eL : L = L.take t ++ L[t] :: L.drop (t + 1) := by
        rw [← List.drop_eq_getElem_cons htL, List.take_append_drop]
      refine ih (c + 1) (L.take t ++ L.drop (t + 1)) (O ++ [L[t]]) (W.eraseIdx t) (S ++ [W[t]]) u' v' (by omega) (by simp [hO]) ⟨g1, ?_, ?_, ?_, ?_, ?_, ?_, ?_⟩ k (by omega)
      · have hwl := h.w
        rw [List.length_eraseIdx_of_lt h2, List.length_append, List.length_take, List.length_drop]; omega
      · intro j hj
        rw [List.length_append, List.length_take, List.length_drop] at hj
        refine ⟨by rw [List.length_eraseIdx_of_lt h2]; have := h.w; omega, ?_⟩
        rw [List.getElem_eraseIdx]
        by_cases hjt : j < t
        · obtain ⟨a, b⟩ := h.wl j (by omega)
          rw [dif_pos hjt, b, List.getElem_append_left (by rw [List.length_take]; omega), List.getElem_take]
        · obtain ⟨a, b⟩ := h.wl (j + 1) (by omega)
          rw [dif_neg hjt, b, List.getElem_append_right (by rw [List.length_take]; omega), List.getElem_drop]
          congr 2
          rw [List.length_take]
          omega
      · simp [h.s]
      · rw [List.length_append, List.length_append, List.length_take, List.length_drop]; simp only [List.length_singleton]; omega
      · intro x hx
        refine h.i x ?_
        rw [eL]
        simp only [List.mem_append, List.mem_cons, List.not_mem_nil, or_false] at hx ⊢
        rcases hx with (hx | hx) | (hx | hx)
        · exact .inl hx
        · exact .inr (.inr (.inl hx))
        · exact .inr (.inl hx)
        · exact .inr (.inr (.inr hx))
      · refine pw_move O (L.take t) (L.drop (t + 1)) L[t] (by rw [← eL]; exact h.d) (fun a ha => ?_)
        have hd := h.d
        rw [eL, List.pairwise_append, List.pairwise_append] at hd
        exact fun e => hd.2.1.2.2 a ha L[t] List.mem_cons_self e.symm
      · refine pw_move O (L.take t) (L.drop (t + 1)) L[t] (by rw [← eL]; exact h.j) (fun a ha => ?_)
        obtain ⟨j, hj, rfl⟩ := List.mem_take_iff_getElem.1 ha
        have hj2 : j < L.length := by omega
        obtain ⟨a1, b1⟩ := h.wl j hj2
        have hm := pB_may W w1 t h2 h3 j (by omega)
        rw [rdE_mem W t h2, rdE_mem W j a1, h6, b1] at hm
        unfold jB
        split
        · exact hm
        · rfl
theorem law_l0 (p : List S60) (u v : List Int) (hp : p.length ≤ 6) (hq : quB p u v [] = true) (d : Nat) : ∀ i : Nat, i + d = p.length → ∀ k, 1099644300100 + d < k → laws_FnQueues.l0 k p (idQ i) (i : Int) p u v [] = some true := by
  induction d with
  | zero =>
    intro i hi k hk
    obtain ⟨k, rfl⟩ : ∃ m, k = m + 1 := ⟨k - 1, by omega⟩
    simp only [laws_FnQueues.l0]
    rw [if_neg (by omega)]
    have hi' : i = p.length := by omega
    subst hi'
    obtain ⟨w1, w2, w3, w4, w5⟩ := quB_parts hq
    have c0 : ((0 : Nat) : Int) = 0 := rfl
    rw [← c0]
    have hlen := idQ_length p.length
    refine law_l1 p hp w1 p.length 0 (idQ p.length) [] p [] u v (by omega) rfl ⟨hq, by rw [hlen], fun j h => ⟨by omega, ?_⟩, rfl, by simp [hlen], fun x hx => ?_, ?_, ?_⟩ k (by omega)
    · rw [idQ_get p.length j h, rdE_mem p j (by omega)]
    · rw [List.nil_append] at hx
      have := idQ_lt _ x hx
      unfold inB
      exact decide_eq_true (by omega)
    · rw [List.nil_append]
      exact (idQ_pw p.length).imp (fun {a b} hab => by omega)
    · rw [List.nil_append]
      refine (idQ_pw p.length).imp (fun {a b} hab => ?_)
      unfold jB
      rw [if_neg (by omega)]
  | succ d ih =>
    intro i hi k hk
    obtain ⟨k, rfl⟩ : ∃ m, k = m + 1 := ⟨k - 1, by omega⟩
    simp only [laws_FnQueues.l0]
    rw [if_pos (by omega), if_pos (by rw [idQ_length]; omega), wrap_succ i (by omega), ← idQ_succ]
    exact ih (i + 1) (by omega) k (by omega)
theorem FnQueues : laws_FnQueues.Pure := by
  intro l hm hl _
  have hl : (l.length : Int) ≤ 140737488351232 := by omega
  obtain ⟨q, u, v, hq6, hq, e1⟩ := waiting_ok l hl
  obtain ⟨K, hK⟩ : ∃ K : Nat, 1099644400000 < K := ⟨_, Nat.lt_succ_self _⟩
  refine ⟨K, ?_⟩
  unfold laws_FnQueues.f laws_big.f
  simp only [Option.bind_some]
  by_cases hbig : (l.length : Int) > 1048576
  · rw [decide_eq_true hbig, if_pos rfl]
  · rw [decide_eq_false hbig, if_neg (by simp), e1 K (by omega)]
    simp only [Option.bind_some]
    exact law_l0 q u v hq6 hq q.length 0 (by omega) K (by omega)

end Go.Proofs.Ytbdehpmfemgooaa.Pure
