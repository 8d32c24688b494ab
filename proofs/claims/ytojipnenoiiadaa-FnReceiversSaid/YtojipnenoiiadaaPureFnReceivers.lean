/- The statement FnReceivers over lists of bytes: whatever is drawn, a frame that is expected is taken once, and when it comes again it is old. Draws that are longer than the law's own bound are let by, as the law itself does. -/
import Derived.Test.YtojipnenoiiadaaPFnReceiversx10
import Derived.Test.YtojipnenoiiadaaVLists
namespace Go.Proofs.Ytojipnenoiiadaa.Pure
set_option linter.unusedVariables false
set_option linter.unusedSimpArgs false
open Go.RowKit Go.Proofs.Ytojipnenoiiadaa.PFnReceivers Go.Proofs.YtojipnenoiiadaaW.PrintWords Go.Proofs.YtojipnenoiiadaaW.PrintLast Go.Proofs.YtojipnenoiiadaaW.PrintMore Go.Proofs.YtojipnenoiiadaaX

theorem within_eq (a l m : Int) : impl_within.f a l m = some (decide (l ≤ a ∧ a ≤ m)) := by
  unfold impl_within.f
  by_cases h : a ≥ l
  · have h' : l ≤ a := h
    rw [if_pos h]; simp [h']
  · have h' : ¬ l ≤ a := h
    rw [if_neg h]; simp [h']
theorem any_not {α : Type} (l : List α) (p : α → Bool) : (!l.any fun x => !p x) = l.all p := by
  induction l with
  | nil => rfl
  | cons a l ih => rw [List.any_cons, List.all_cons, Bool.not_or, ih, Bool.not_not]
def byteB (x : Int) : Bool := decide (0 ≤ x ∧ x ≤ 255)
def bytesB (l : List Int) : Bool := l.all byteB && decide (l.length ≤ 40)
theorem notByte_eq (x : Int) : impl_AreBytes_1.f x = some (!byteB x) := by
  unfold impl_AreBytes_1.f impl_isByte.f
  rw [within_eq]
  rfl
theorem cBytes_l0 (l : List (Int)) (hl : l.length ≤ 1048576) (d : Nat) : ∀ i : Nat, i + d = l.length → ∀ k, 0 + d < k → ∃ r, slices_IndexFunc_int_int__impl_AreBytes_1.l0 k l (l.length : Int) (i : Int) = some r ∧ decide (r ≥ 0) = (l.drop i).any (fun x => !byteB x) := by
  induction d with
  | zero =>
    intro i hi k hk
    obtain ⟨k, rfl⟩ : ∃ m, k = m + 1 := ⟨k - 1, by omega⟩
    refine ⟨-1, ?_, ?_⟩
    · simp only [slices_IndexFunc_int_int__impl_AreBytes_1.l0]
      rw [if_neg (show ¬ (i : Int) < (l.length : Int) by omega)]
    · rw [drop_all l i (by omega)]; rfl
  | succ d ih =>
    intro i hi k hk
    obtain ⟨k, rfl⟩ : ∃ m, k = m + 1 := ⟨k - 1, by omega⟩
    have hlt : i < l.length := by omega
    simp only [slices_IndexFunc_int_int__impl_AreBytes_1.l0]
    rw [if_pos (show (i : Int) < (l.length : Int) by omega), if_pos (show (0 : Int) ≤ (i : Int) by omega), if_pos (show (i : Int) < (l.length : Int) by omega), rd_lt l i hlt, notByte_eq l[i]]
    simp only [Option.bind_some]
    by_cases hp : (fun x => !byteB x) l[i] = true
    · rw [if_pos hp]
      exact ⟨_, rfl, by rw [any_drop_yes l i hlt _ hp, decide_eq_true (by omega)]⟩
    · rw [if_neg hp, wrap_succ i (by omega)]
      obtain ⟨r, h1, h2⟩ := ih (i + 1) (by omega) k (by omega)
      exact ⟨r, h1, by rw [h2, any_drop_no l i hlt _ hp]⟩
theorem cBytes_ev (l : List (Int)) (hl : l.length ≤ 1048576) (k : Nat) (hk : 0 + l.length < k) : slices_ContainsFunc_int_int__impl_AreBytes_1.f k l = some (l.any (fun x => !byteB x)) := by
  obtain ⟨r, h1, h2⟩ := cBytes_l0 l hl l.length 0 (by omega) k hk
  unfold slices_ContainsFunc_int_int__impl_AreBytes_1.f slices_IndexFunc_int_int__impl_AreBytes_1.f
  have c0 : ((0 : Nat) : Int) = 0 := rfl
  rw [c0] at h1
  rw [h1]
  simp only [Option.bind_some]
  rw [h2]; rfl
theorem iAreBytes_ev (l : List Int) (k : Nat) (hk : 40 < k) : impl_AreBytes.f k l = some (bytesB l) := by
  unfold impl_AreBytes.f bytesB
  by_cases h : (l.length : Int) ≤ 40
  · rw [if_pos h, cBytes_ev l (by omega) k (by omega)]
    simp only [Option.bind_some]
    rw [any_not, decide_eq_true (show l.length ≤ 40 by omega), Bool.and_true]
  · rw [if_neg h, decide_eq_false (show ¬ l.length ≤ 40 by omega), Bool.and_false]
/-- A cursor that has read no more than there is. -/
def CurOk (l : List Int) (i : Int) : Prop := 0 ≤ i ∧ i ≤ l.length ∧ (l.length : Int) ≤ 140737488351232
theorem byte_ok (l : List Int) (i h : Int) (hc : CurOk l i) : ∃ x i' h', spec_l01Byte.f l i h = some (x, i', h') ∧ 0 ≤ x ∧ x ≤ 255 ∧ CurOk l i' := by
  obtain ⟨h0, h1, h2⟩ := hc
  unfold spec_l01Byte.f
  by_cases hi : i < (l.length : Int)
  · rw [if_pos hi, if_pos h0]
    exact ⟨_, _, _, rfl, (and_mask _ 255 (by decide)).1, (and_mask _ 255 (by decide)).2, by rw [wrap_id _ (by omega)]; exact ⟨by omega, by omega, h2⟩⟩
  · rw [if_neg hi]
    exact ⟨_, _, _, rfl, (and_mask _ 255 (by decide)).1, (and_mask _ 255 (by decide)).2, ⟨h0, h1, h2⟩⟩
theorem below_ok (l : List Int) (i h n : Int) (hc : CurOk l i) (hn : 0 < n) : ∃ x i' h', spec_l01Below.f l i h n = some (x, i', h') ∧ 0 ≤ x ∧ x < n ∧ CurOk l i' := by
  unfold spec_l01Below.f
  rw [if_neg (by omega)]
  by_cases hb : n ≤ 256
  · rw [if_pos hb]
    obtain ⟨x, i1, h1, e, hx0, hx1, hc1⟩ := byte_ok l i h hc
    rw [e]
    simp only [Option.bind_some]
    rw [if_neg (by omega)]
    exact ⟨_, _, _, rfl, (tmod_range x n hx0 hn).1, (tmod_range x n hx0 hn).2, hc1⟩
  · rw [if_neg hb]
    obtain ⟨x, i1, h1, e1, hx0, hx1, hc1⟩ := byte_ok l i h hc
    obtain ⟨y, i2, h2, e2, hy0, hy1, hc2⟩ := byte_ok l i1 h1 hc1
    obtain ⟨z, i3, h3, e3, hz0, hz1, hc3⟩ := byte_ok l i2 h2 hc2
    obtain ⟨w, i4, h4, e4, hw0, hw1, hc4⟩ := byte_ok l i3 h3 hc3
    rw [e1]
    simp only [Option.bind_some]
    rw [e2]
    simp only [Option.bind_some]
    rw [e3]
    simp only [Option.bind_some]
    rw [e4]
    simp only [Option.bind_some]
    rw [if_neg (by omega)]
    have hv : 0 ≤ wrap64 ((wrap64 ((wrap64 ((wrap64 (x * 16777216)) + (wrap64 (y * 65536)))) + (wrap64 (z * 256)))) + w) := by
      rw [wrap_id (x * 16777216) (by omega), wrap_id (y * 65536) (by omega), wrap_id (z * 256) (by omega), wrap_id (x * 16777216 + y * 65536) (by omega), wrap_id (x * 16777216 + y * 65536 + z * 256) (by omega), wrap_id _ (by omega)]
      omega
    exact ⟨_, _, _, rfl, (tmod_range _ n hv hn).1, (tmod_range _ n hv hn).2, hc4⟩
theorem pick_ok (l : List Int) (i h : Int) (xs : List Int) (hc : CurOk l i) (hx : 0 < xs.length) : ∃ x i' h', spec_l01PickInt.f l i h xs = some (x, i', h') ∧ x ∈ xs ∧ CurOk l i' := by
  unfold spec_l01PickInt.f
  obtain ⟨q, i1, h1, e, h0, h2, hc1⟩ := below_ok l i h (xs.length : Int) hc (by omega)
  rw [e]
  simp only [Option.bind_some]
  rw [if_pos h0, if_pos h2]
  obtain ⟨m, rfl⟩ := Int.eq_ofNat_of_zero_le h0
  refine ⟨_, _, _, rfl, ?_, hc1⟩
  rw [rd_lt xs m (by omega)]
  exact List.getElem_mem _
theorem new_l0 (l : List Int) (d : Nat) : ∀ (i : Nat) (h : Int), i + d = 4000 → ∃ h', ∀ k, d < k → spec_l01New.l0 k l h (i : Int) = some (l, 0, h') := by
  induction d with
  | zero =>
    intro i h hi
    refine ⟨h, fun k hk => ?_⟩
    obtain ⟨k, rfl⟩ : ∃ m, k = m + 1 := ⟨k - 1, by omega⟩
    simp only [spec_l01New.l0]
    by_cases hlt : (i : Int) < (l.length : Int)
    · rw [if_pos hlt, if_neg (by omega)]
    · rw [if_neg hlt]
  | succ d ih =>
    intro i h hi
    by_cases hlt : (i : Int) < (l.length : Int)
    · obtain ⟨h', hh⟩ := ih (i + 1) (Go.bits .and .i64 (wrap64 ((wrap64 ((wrap64 (h * 131)) + (wrap64 (rd l i)))) + 7)) 1073741823) (by omega)
      refine ⟨h', fun k hk => ?_⟩
      obtain ⟨k, rfl⟩ : ∃ m, k = m + 1 := ⟨k - 1, by omega⟩
      simp only [spec_l01New.l0]
      rw [if_pos hlt, if_pos (show (i : Int) < 4000 by omega), if_pos (by omega), wrap_succ i (by omega)]
      exact hh k (by omega)
    · refine ⟨h, fun k hk => ?_⟩
      obtain ⟨k, rfl⟩ : ∃ m, k = m + 1 := ⟨k - 1, by omega⟩
      simp only [spec_l01New.l0]
      rw [if_neg hlt]
theorem new_ok (l : List Int) : ∃ h', ∀ k, 4000 < k → spec_l01New.f k l = some (l, 0, h') := by
  unfold spec_l01New.f
  exact new_l0 l 4000 0 _ (by omega)
theorem places_l0 (l : List Int) (d : Nat) : ∀ (n : Nat) (xs : List Int) (i h : Int), n + d = 12 → xs.length = n → (∀ x ∈ xs, 0 ≤ x ∧ x < 10000) → CurOk l i → ∃ ys, ys.length = 12 ∧ (∀ x ∈ ys, 0 ≤ x ∧ x < 10000) ∧ ∀ k, d < k → spec_DrawPlaces.l0 k xs (n : Int) l i h = some ys := by
  induction d with
  | zero =>
    intro n xs i h hn hx hr hc
    refine ⟨xs, by omega, hr, fun k hk => ?_⟩
    obtain ⟨k, rfl⟩ : ∃ m, k = m + 1 := ⟨k - 1, by omega⟩
    simp only [spec_DrawPlaces.l0]
    rw [if_neg (by omega)]
  | succ d ih =>
    intro n xs i h hn hx hr hc
    obtain ⟨x, i1, h1, e, hx0, hx1, hc1⟩ := below_ok l i h 10000 hc (by omega)
    obtain ⟨ys, hy1, hy2, hy3⟩ := ih (n + 1) (xs ++ [x]) i1 h1 (by omega) (by simp [hx]) (by
      intro z hz
      rcases List.mem_append.1 hz with hz | hz
      · exact hr z hz
      · rw [List.mem_singleton.1 hz]; exact ⟨hx0, hx1⟩) hc1
    refine ⟨ys, hy1, hy2, fun k hk => ?_⟩
    obtain ⟨k, rfl⟩ : ∃ m, k = m + 1 := ⟨k - 1, by omega⟩
    simp only [spec_DrawPlaces.l0]
    rw [if_pos (by omega), e]
    simp only [Option.bind_some]
    rw [if_pos (by omega), wrap_succ n (by omega)]
    exact hy3 k (by omega)
theorem places_ok (l : List Int) (hl : (l.length : Int) ≤ 140737488351232) : ∃ ys : List Int, ys.length = 12 ∧ (∀ x ∈ ys, 0 ≤ x ∧ x < 10000) ∧ ∀ k, 4000 < k → spec_DrawPlaces.f k l = some ys := by
  obtain ⟨h, hn⟩ := new_ok l
  obtain ⟨ys, h1, h2, h3⟩ := places_l0 l 12 0 [] 0 h (by omega) rfl (by simp) ⟨by omega, by omega, hl⟩
  refine ⟨ys, h1, h2, fun k hk => ?_⟩
  unfold spec_DrawPlaces.f
  rw [hn k hk]
  simp only [Option.bind_some]
  exact h3 k (by omega)
def wordB (x : Int) : Bool := decide (0 ≤ x ∧ x ≤ 65535)
/-- A valid packet, kind by kind: its words are words (W), and it has m of them. -/
def pkQ (K f t a n g s : Int) (W : Bool) (m : Int) : Prop := (0 ≤ f ∧ f ≤ 255) ∧ W = true ∧
  ((K = 1 ∧ 1 ≤ m ∧ m ≤ 8 ∧ 0 ≤ a ∧ a ≤ 65536 - m ∧ s = 0 ∧ t = 0 ∧ n = 0 ∧ g = 0) ∨
   (K = 2 ∧ 1 ≤ m ∧ m ≤ 8 ∧ a = 0 ∧ s = 0 ∧ t = 0 ∧ n = 0 ∧ g = 0) ∨
   (K = 3 ∧ m = 0 ∧ 1 ≤ n ∧ n ≤ 64 ∧ 0 ≤ a ∧ a ≤ 65536 - n ∧ 0 ≤ g ∧ g ≤ 7 ∧ s = 0 ∧ t = 0) ∨
   (K = 4 ∧ m = 0 ∧ 0 ≤ a ∧ a ≤ 63 ∧ 0 ≤ t ∧ t ≤ 255 ∧ 0 ≤ g ∧ g ≤ 7 ∧ s = 0 ∧ n = 0) ∨
   (K = 5 ∧ m = 1 ∧ 0 ≤ a ∧ a ≤ 63 ∧ 0 ≤ t ∧ t ≤ 255 ∧ 0 ≤ g ∧ g ≤ 7 ∧ s = 0 ∧ n = 0) ∨
   (K = 6 ∧ a = 0 ∧ 0 ≤ t ∧ t ≤ 255 ∧ 0 ≤ g ∧ g ≤ 7 ∧ 0 ≤ s ∧ s ≤ 2 ∧ 0 ≤ n ∧ n ≤ 64 ∧ (m = 0 ∨ s = 0 ∧ m ≤ 8 ∧ m ≤ n)))
instance (K f t a n g s : Int) (W : Bool) (m : Int) : Decidable (pkQ K f t a n g s W m) := by unfold pkQ; infer_instance
def pkB (K f t a n g s : Int) (l : List Int) : Bool := decide (pkQ K f t a n g s (l.all wordB) (l.length : Int))
/-- Whether the data fit to the kind, as the program asks it. -/
def dataQ (K n s : Int) (m : Int) : Prop := (K = 1 ∨ K = 2) ∧ 1 ≤ m ∧ m ≤ 8 ∨ K = 5 ∧ m = 1 ∨ K = 6 ∧ s = 0 ∧ m ≤ 8 ∧ m ≤ n ∨ (K ≠ 1 ∧ K ≠ 2 ∧ K ≠ 5 ∧ ¬ (K = 6 ∧ s = 0)) ∧ m = 0
instance (K n s m : Int) : Decidable (dataQ K n s m) := by unfold dataQ; infer_instance
theorem notWord_eq (x : Int) : impl_Packet_dataOk_1.f x = some (!wordB x) := by
  unfold impl_Packet_dataOk_1.f impl_isWord.f
  rw [within_eq]
  rfl
theorem cWords_l0 (l : List (Int)) (hl : l.length ≤ 1048576) (d : Nat) : ∀ i : Nat, i + d = l.length → ∀ k, 0 + d < k → ∃ r, slices_IndexFunc_int_int__impl_Packet__dataOk_1.l0 k l (l.length : Int) (i : Int) = some r ∧ decide (r ≥ 0) = (l.drop i).any (fun x => !wordB x) := by
  induction d with
  | zero =>
    intro i hi k hk
    obtain ⟨k, rfl⟩ : ∃ m, k = m + 1 := ⟨k - 1, by omega⟩
    refine ⟨-1, ?_, ?_⟩
    · simp only [slices_IndexFunc_int_int__impl_Packet__dataOk_1.l0]
      rw [if_neg (show ¬ (i : Int) < (l.length : Int) by omega)]
    · rw [drop_all l i (by omega)]; rfl
  | succ d ih =>
    intro i hi k hk
    obtain ⟨k, rfl⟩ : ∃ m, k = m + 1 := ⟨k - 1, by omega⟩
    have hlt : i < l.length := by omega
    simp only [slices_IndexFunc_int_int__impl_Packet__dataOk_1.l0]
    rw [if_pos (show (i : Int) < (l.length : Int) by omega), if_pos (show (0 : Int) ≤ (i : Int) by omega), if_pos (show (i : Int) < (l.length : Int) by omega), rd_lt l i hlt, notWord_eq l[i]]
    simp only [Option.bind_some]
    by_cases hp : (fun x => !wordB x) l[i] = true
    · rw [if_pos hp]
      exact ⟨_, rfl, by rw [any_drop_yes l i hlt _ hp, decide_eq_true (by omega)]⟩
    · rw [if_neg hp, wrap_succ i (by omega)]
      obtain ⟨r, h1, h2⟩ := ih (i + 1) (by omega) k (by omega)
      exact ⟨r, h1, by rw [h2, any_drop_no l i hlt _ hp]⟩
theorem cWords_ev (l : List (Int)) (hl : l.length ≤ 1048576) (k : Nat) (hk : 0 + l.length < k) : slices_ContainsFunc_int_int__impl_Packet__dataOk_1.f k l = some (l.any (fun x => !wordB x)) := by
  obtain ⟨r, h1, h2⟩ := cWords_l0 l hl l.length 0 (by omega) k hk
  unfold slices_ContainsFunc_int_int__impl_Packet__dataOk_1.f slices_IndexFunc_int_int__impl_Packet__dataOk_1.f
  have c0 : ((0 : Nat) : Int) = 0 := rfl
  rw [c0] at h1
  rw [h1]
  simp only [Option.bind_some]
  rw [h2]; rfl
theorem iDataOk_ev (K f t a n g s : Int) (l : List Int) (hl : l.length ≤ 1048576) (k : Nat) (hk : 1048580 < k) : impl_Packet_dataOk.f k K f t a n g s l = some (l.all wordB && decide (dataQ K n s (l.length : Int))) := by
  obtain ⟨k, rfl⟩ : ∃ m, k = m + 1 := ⟨k - 1, by omega⟩
  unfold impl_Packet_dataOk.f
  rw [cWords_ev l hl _ (by omega)]
  simp only [Option.bind_some, impl_Packet_dataOk.j0, within_eq, if_true]
  rw [← any_not l wordB]
  generalize (l.any fun x => !wordB x) = W
  generalize (l.length : Int) = m
  cases W
  all_goals simp only [Bool.false_eq_true, if_false, if_true, Bool.not_false, Bool.not_true, Bool.true_and, Bool.false_and, beq_iff_eq]
  all_goals repeat' split
  all_goals first | rfl | (congr 1; rw [Bool.eq_iff_iff]; simp only [beq_iff_eq, decide_eq_true_eq, Bool.false_eq_true, false_iff, true_iff]; unfold dataQ; omega)
set_option maxHeartbeats 2000000 in
theorem iIsPacket_ev (K f t a n g s : Int) (l : List Int) (hl : l.length ≤ 1048576) (k : Nat) (hk : 1048590 < k) : impl_IsPacket.f k K f t a n g s l = some (pkB K f t a n g s l) := by
  obtain ⟨k, rfl⟩ : ∃ m, k = m + 3 := ⟨k - 3, by omega⟩
  unfold impl_IsPacket.f impl_IsId.f impl_Packet_addressOk.f impl_Packet_lengthOk.f pkB
  simp only [Option.bind_some, within_eq, impl_IsPacket.j0, impl_IsPacket.j1, impl_IsPacket.j2, impl_Packet_addressOk.j0, impl_Packet_words.f, impl_IsId.f, iDataOk_ev K f t a n g s l hl _ (show 1048580 < k by omega), decide_eq_true_eq, Bool.not_eq_true', Bool.false_eq_true, if_false, if_true]
  have hm : (0 : Int) ≤ (l.length : Int) ∧ (l.length : Int) ≤ 1048576 := by omega
  generalize (l.length : Int) = m at hm ⊢
  generalize l.all wordB = W
  by_cases hf : 0 ≤ f ∧ f ≤ 255
  case neg =>
    simp only [hf, if_false, if_true, Bool.true_eq_false]
    have e : decide (pkQ K f t a n g s W m) = false := by rw [decide_eq_false_iff_not]; unfold pkQ; exact fun h => hf h.1
    rw [e]
    repeat' split
    all_goals rfl
  by_cases k1 : K = 1
  · subst k1
    simp only [Int.reduceEq, Int.reduceLE, Int.reduceBEq, hf, if_true, if_false, Option.bind_some, and_true, true_and, and_false, false_and, Bool.true_eq_false, Bool.false_eq_true]
    cases W
    all_goals repeat' (first | (simp only [Option.bind_some, decide_eq_true_eq, Bool.false_eq_true, if_false, if_true, Bool.false_and, Bool.true_and]) | split)
    all_goals ((try simp only [Option.bind_some]); congr 1; rw [Bool.eq_iff_iff]; (try simp only [beq_iff_eq, decide_eq_true_eq, Bool.and_eq_true, Bool.false_eq_true]); unfold pkQ; (try unfold dataQ); (try simp only [eq_self, Bool.false_eq_true, true_and, false_and, and_false, false_iff, true_iff, iff_false, iff_true, not_false_eq_true, not_true_eq_false]); first | done | omega | ((try simp only [le_mn]); omega) | ((try simp only [wrap64, beq_eq_false_iff_ne, bne_iff_ne, beq_iff_eq, ne_eq, decide_eq_false_iff_not, Decidable.not_not, true_or, or_true, true_and, not_true_eq_false, not_false_eq_true, false_and, and_false, and_true, or_false, false_or, iff_false, iff_true, false_iff, true_iff, Int.reduceEq] at *); (try simp only [le_mn]); first | done | omega))
  by_cases k2 : K = 2
  · subst k2
    simp only [Int.reduceEq, Int.reduceLE, Int.reduceBEq, hf, if_true, if_false, Option.bind_some, and_true, true_and, and_false, false_and, Bool.true_eq_false, Bool.false_eq_true]
    cases W
    all_goals repeat' (first | (simp only [Option.bind_some, decide_eq_true_eq, Bool.false_eq_true, if_false, if_true, Bool.false_and, Bool.true_and]) | split)
    all_goals ((try simp only [Option.bind_some]); congr 1; rw [Bool.eq_iff_iff]; (try simp only [beq_iff_eq, decide_eq_true_eq, Bool.and_eq_true, Bool.false_eq_true]); unfold pkQ; (try unfold dataQ); (try simp only [eq_self, Bool.false_eq_true, true_and, false_and, and_false, false_iff, true_iff, iff_false, iff_true, not_false_eq_true, not_true_eq_false]); first | done | omega | ((try simp only [le_mn]); omega) | ((try simp only [wrap64, beq_eq_false_iff_ne, bne_iff_ne, beq_iff_eq, ne_eq, decide_eq_false_iff_not, Decidable.not_not, true_or, or_true, true_and, not_true_eq_false, not_false_eq_true, false_and, and_false, and_true, or_false, false_or, iff_false, iff_true, false_iff, true_iff, Int.reduceEq] at *); (try simp only [le_mn]); first | done | omega))
  by_cases k3 : K = 3
  · subst k3
    simp only [Int.reduceEq, Int.reduceLE, Int.reduceBEq, hf, if_true, if_false, Option.bind_some, and_true, true_and, and_false, false_and, Bool.true_eq_false, Bool.false_eq_true]
    cases W
    all_goals repeat' (first | (simp only [Option.bind_some, decide_eq_true_eq, Bool.false_eq_true, if_false, if_true, Bool.false_and, Bool.true_and]) | split)
    all_goals ((try simp only [Option.bind_some]); congr 1; rw [Bool.eq_iff_iff]; (try simp only [beq_iff_eq, decide_eq_true_eq, Bool.and_eq_true, Bool.false_eq_true]); unfold pkQ; (try unfold dataQ); (try simp only [eq_self, Bool.false_eq_true, true_and, false_and, and_false, false_iff, true_iff, iff_false, iff_true, not_false_eq_true, not_true_eq_false]); first | done | omega | ((try simp only [le_mn]); omega) | ((try simp only [wrap64, beq_eq_false_iff_ne, bne_iff_ne, beq_iff_eq, ne_eq, decide_eq_false_iff_not, Decidable.not_not, true_or, or_true, true_and, not_true_eq_false, not_false_eq_true, false_and, and_false, and_true, or_false, false_or, iff_false, iff_true, false_iff, true_iff, Int.reduceEq] at *); (try simp only [le_mn]); first | done | omega))
  by_cases k4 : K = 4
  · subst k4
    simp only [Int.reduceEq, Int.reduceLE, Int.reduceBEq, hf, if_true, if_false, Option.bind_some, and_true, true_and, and_false, false_and, Bool.true_eq_false, Bool.false_eq_true]
    cases W
    all_goals repeat' (first | (simp only [Option.bind_some, decide_eq_true_eq, Bool.false_eq_true, if_false, if_true, Bool.false_and, Bool.true_and]) | split)
    all_goals ((try simp only [Option.bind_some]); congr 1; rw [Bool.eq_iff_iff]; (try simp only [beq_iff_eq, decide_eq_true_eq, Bool.and_eq_true, Bool.false_eq_true]); unfold pkQ; (try unfold dataQ); (try simp only [eq_self, Bool.false_eq_true, true_and, false_and, and_false, false_iff, true_iff, iff_false, iff_true, not_false_eq_true, not_true_eq_false]); first | done | omega | ((try simp only [le_mn]); omega) | ((try simp only [wrap64, beq_eq_false_iff_ne, bne_iff_ne, beq_iff_eq, ne_eq, decide_eq_false_iff_not, Decidable.not_not, true_or, or_true, true_and, not_true_eq_false, not_false_eq_true, false_and, and_false, and_true, or_false, false_or, iff_false, iff_true, false_iff, true_iff, Int.reduceEq] at *); (try simp only [le_mn]); first | done | omega))
  by_cases k5 : K = 5
  · subst k5
    simp only [Int.reduceEq, Int.reduceLE, Int.reduceBEq, hf, if_true, if_false, Option.bind_some, and_true, true_and, and_false, false_and, Bool.true_eq_false, Bool.false_eq_true]
    cases W
    all_goals repeat' (first | (simp only [Option.bind_some, decide_eq_true_eq, Bool.false_eq_true, if_false, if_true, Bool.false_and, Bool.true_and]) | split)
    all_goals ((try simp only [Option.bind_some]); congr 1; rw [Bool.eq_iff_iff]; (try simp only [beq_iff_eq, decide_eq_true_eq, Bool.and_eq_true, Bool.false_eq_true]); unfold pkQ; (try unfold dataQ); (try simp only [eq_self, Bool.false_eq_true, true_and, false_and, and_false, false_iff, true_iff, iff_false, iff_true, not_false_eq_true, not_true_eq_false]); first | done | omega | ((try simp only [le_mn]); omega) | ((try simp only [wrap64, beq_eq_false_iff_ne, bne_iff_ne, beq_iff_eq, ne_eq, decide_eq_false_iff_not, Decidable.not_not, true_or, or_true, true_and, not_true_eq_false, not_false_eq_true, false_and, and_false, and_true, or_false, false_or, iff_false, iff_true, false_iff, true_iff, Int.reduceEq] at *); (try simp only [le_mn]); first | done | omega))
  by_cases k6 : K = 6
  · subst k6
    simp only [Int.reduceEq, Int.reduceLE, Int.reduceBEq, hf, if_true, if_false, Option.bind_some, and_true, true_and, and_false, false_and, Bool.true_eq_false, Bool.false_eq_true]
    cases W
    all_goals repeat' (first | (simp only [Option.bind_some, decide_eq_true_eq, Bool.false_eq_true, if_false, if_true, Bool.false_and, Bool.true_and]) | split)
    all_goals ((try simp only [Option.bind_some]); congr 1; rw [Bool.eq_iff_iff]; (try simp only [beq_iff_eq, decide_eq_true_eq, Bool.and_eq_true, Bool.false_eq_true]); unfold pkQ; (try unfold dataQ); (try simp only [eq_self, Bool.false_eq_true, true_and, false_and, and_false, false_iff, true_iff, iff_false, iff_true, not_false_eq_true, not_true_eq_false]); first | done | omega | ((try simp only [le_mn]); omega) | ((try simp only [wrap64, beq_eq_false_iff_ne, bne_iff_ne, beq_iff_eq, ne_eq, decide_eq_false_iff_not, Decidable.not_not, true_or, or_true, true_and, not_true_eq_false, not_false_eq_true, false_and, and_false, and_true, or_false, false_or, iff_false, iff_true, false_iff, true_iff, Int.reduceEq] at *); (try simp only [le_mn]); first | done | omega))
  simp only [show ¬ (1 ≤ K ∧ K ≤ 6) by omega, if_false, if_true]
  ((try simp only [Option.bind_some]); congr 1; rw [Bool.eq_iff_iff]; (try simp only [beq_iff_eq, decide_eq_true_eq, Bool.and_eq_true, Bool.false_eq_true]); unfold pkQ; (try unfold dataQ); (try simp only [eq_self, Bool.false_eq_true, true_and, false_and, and_false, false_iff, true_iff, iff_false, iff_true, not_false_eq_true, not_true_eq_false]); first | done | omega | ((try simp only [le_mn]); omega) | ((try simp only [wrap64, beq_eq_false_iff_ne, bne_iff_ne, beq_iff_eq, ne_eq, decide_eq_false_iff_not, Decidable.not_not, true_or, or_true, true_and, not_true_eq_false, not_false_eq_true, false_and, and_false, and_true, or_false, false_or, iff_false, iff_true, false_iff, true_iff, Int.reduceEq] at *); (try simp only [le_mn]); first | done | omega))
theorem data_l0 (l : List Int) (m : Nat) (hm : m ≤ 100) (d : Nat) : ∀ (n : Nat) (xs : List Int) (i h : Int), n + d = m → xs.length = n → xs.all wordB = true → CurOk l i → ∃ ys i' h', ys.length = m ∧ ys.all wordB = true ∧ CurOk l i' ∧ ∀ k, d < k → spec_l04Data.l0 k (m : Int) xs (n : Int) l i h = some (ys, i', h') := by
  induction d with
  | zero =>
    intro n xs i h hn hx hr hc
    refine ⟨xs, i, h, by omega, hr, hc, fun k hk => ?_⟩
    obtain ⟨k, rfl⟩ : ∃ m, k = m + 1 := ⟨k - 1, by omega⟩
    simp only [spec_l04Data.l0]
    rw [if_neg (by omega)]
  | succ d ih =>
    intro n xs i h hn hx hr hc
    obtain ⟨x, i1, h1, e1, hx0, hx1, hc1⟩ := below_ok l i h 256 hc (by omega)
    obtain ⟨y, i2, h2, e2, hy0, hy1, hc2⟩ := below_ok l i1 h1 65536 hc1 (by omega)
    obtain ⟨z, i3, h3, e3, hz, hc3⟩ := pick_ok l i2 h2 [0, 1, 65535, x, y] hc2 (by simp)
    have hz' : 0 ≤ z ∧ z ≤ 65535 := by
      simp only [List.mem_cons, List.not_mem_nil, or_false] at hz
      omega
    obtain ⟨ys, i', h', hy1', hy2', hy3', hy4'⟩ := ih (n + 1) (xs ++ [z]) i3 h3 (by omega) (by simp [hx]) (by
      rw [List.all_append, hr, List.all_cons, List.all_nil]
      simp [wordB, hz'.1, hz'.2]) hc3
    refine ⟨ys, i', h', hy1', hy2', hy3', fun k hk => ?_⟩
    obtain ⟨k, rfl⟩ : ∃ m, k = m + 1 := ⟨k - 1, by omega⟩
    simp only [spec_l04Data.l0]
    rw [if_pos (by omega), e1]
    simp only [Option.bind_some]
    rw [e2]
    simp only [Option.bind_some]
    rw [e3]
    simp only [Option.bind_some]
    rw [if_pos (by omega), wrap_succ n (by omega)]
    exact hy4' k (by omega)
theorem data_ok (l : List Int) (i h m : Int) (hm : 0 ≤ m ∧ m ≤ 100) (hc : CurOk l i) : ∃ ys i' h', (ys.length : Int) = m ∧ ys.all wordB = true ∧ CurOk l i' ∧ ∀ k, 100 < k → spec_l04Data.f k l i h m = some (ys, i', h') := by
  obtain ⟨n, rfl⟩ := Int.eq_ofNat_of_zero_le hm.1
  obtain ⟨ys, i', h', h1, h2, h3, h4⟩ := data_l0 l n (by omega) n 0 [] i h (by omega) rfl rfl hc
  refine ⟨ys, i', h', by omega, h2, h3, fun k hk => ?_⟩
  unfold spec_l04Data.f
  exact h4 k (by omega)
theorem pk_data {K f t a n g s m : Int} {xs : List Int} (hm : (xs.length : Int) = m) (hv : xs.all wordB = true) (h : pkQ K f t a n g s true m) : pkB K f t a n g s xs = true := by
  unfold pkB
  rw [hv, hm]
  exact decide_eq_true h
theorem pk1 {f a m : Int} (hf : 0 ≤ f ∧ f ≤ 255) (hm : 1 ≤ m ∧ m ≤ 8) (ha : 0 ≤ a ∧ a ≤ 65536 - m) : pkQ 1 f 0 a 0 0 0 true m := ⟨hf, rfl, .inl ⟨rfl, hm.1, hm.2, ha.1, ha.2, rfl, rfl, rfl, rfl⟩⟩
theorem pk2 {f m : Int} (hf : 0 ≤ f ∧ f ≤ 255) (hm : 1 ≤ m ∧ m ≤ 8) : pkQ 2 f 0 0 0 0 0 true m := ⟨hf, rfl, .inr (.inl ⟨rfl, hm.1, hm.2, rfl, rfl, rfl, rfl, rfl⟩)⟩
theorem pk3 {f a n g : Int} (hf : 0 ≤ f ∧ f ≤ 255) (hn : 1 ≤ n ∧ n ≤ 64) (ha : 0 ≤ a ∧ a ≤ 65536 - n) (hg : 0 ≤ g ∧ g ≤ 7) : pkQ 3 f 0 a n g 0 true 0 := ⟨hf, rfl, .inr (.inr (.inl ⟨rfl, rfl, hn.1, hn.2, ha.1, ha.2, hg.1, hg.2, rfl, rfl⟩))⟩
theorem pk4 {f t a g : Int} (hf : 0 ≤ f ∧ f ≤ 255) (ha : 0 ≤ a ∧ a ≤ 63) (ht : 0 ≤ t ∧ t ≤ 255) (hg : 0 ≤ g ∧ g ≤ 7) : pkQ 4 f t a 0 g 0 true 0 := ⟨hf, rfl, .inr (.inr (.inr (.inl ⟨rfl, rfl, ha.1, ha.2, ht.1, ht.2, hg.1, hg.2, rfl, rfl⟩)))⟩
theorem pk5 {f t a g : Int} (hf : 0 ≤ f ∧ f ≤ 255) (ha : 0 ≤ a ∧ a ≤ 63) (ht : 0 ≤ t ∧ t ≤ 255) (hg : 0 ≤ g ∧ g ≤ 7) : pkQ 5 f t a 0 g 0 true 1 := ⟨hf, rfl, .inr (.inr (.inr (.inr (.inl ⟨rfl, rfl, ha.1, ha.2, ht.1, ht.2, hg.1, hg.2, rfl, rfl⟩))))⟩
theorem pk6 {f t n g s m : Int} (hf : 0 ≤ f ∧ f ≤ 255) (ht : 0 ≤ t ∧ t ≤ 255) (hg : 0 ≤ g ∧ g ≤ 7) (hs : 0 ≤ s ∧ s ≤ 2) (hn : 0 ≤ n ∧ n ≤ 64) (hm : m = 0 ∨ s = 0 ∧ m ≤ 8 ∧ m ≤ n) : pkQ 6 f t 0 n g s true m := ⟨hf, rfl, .inr (.inr (.inr (.inr (.inr ⟨rfl, rfl, ht.1, ht.2, hg.1, hg.2, hs.1, hs.2, hn.1, hn.2, hm⟩))))⟩
theorem pk_nil {K f t a n g s : Int} (h : pkQ K f t a n g s true 0) : pkB K f t a n g s [] = true := pk_data rfl rfl h
set_option maxHeartbeats 2000000 in
/-- A drawn packet is a valid one. -/
theorem packet_ok (l : List Int) (i h : Int) (hc : CurOk l i) : ∃ K f t a n g s xs i' h', pkB K f t a n g s xs = true ∧ CurOk l i' ∧ ∀ k, 200 < k → spec_l04Packet.f k l i h = some (K, f, t, a, n, g, s, xs, i', h') := by
  obtain ⟨x, i1, h1, e1, hx0, hx1, hc1⟩ := below_ok l i h 6 hc (by omega)
  obtain ⟨f, i2, h2, e2, hf0, hf1, hc2⟩ := below_ok l i1 h1 256 hc1 (by omega)
  have hx : x = 0 ∨ x = 1 ∨ x = 2 ∨ x = 3 ∨ x = 4 ∨ x = 5 := by omega
  rcases hx with rfl | rfl | rfl | rfl | rfl | rfl
  · have hw : wrap64 1 = 1 := wrap_id _ (by omega)
    obtain ⟨q, i3, h3, e3, hq0, hq1, hc3⟩ := below_ok l i2 h2 8 hc2 (by omega)
    have hq : wrap64 (1 + q) = 1 + q := wrap_id _ (by omega)
    obtain ⟨ys, i4, h4, hl, hv, hc4, e4⟩ := data_ok l i3 h3 (1 + q) (by omega) hc3
    obtain ⟨y, i5, h5, e5, hy0, hy1, hc5⟩ := below_ok l i4 h4 60000 hc4 (by omega)
    obtain ⟨a, i6, h6, e6, ha, hc6⟩ := pick_ok l i5 h5 [0, 100, 4096, 65528, y] hc5 (by simp)
    simp only [List.mem_cons, List.not_mem_nil, or_false] at ha
    refine ⟨1, f, 0, a, 0, 0, 0, ys, i6, h6, ?_, hc6, fun k hk => ?_⟩
    · exact pk_data hl hv (pk1 ⟨hf0, by omega⟩ (by omega) (by omega))
    · obtain ⟨k, rfl⟩ : ∃ m, k = m + 2 := ⟨k - 2, by omega⟩
      unfold spec_l04Packet.f
      simp only [hw, hq, Option.bind_some, spec_l04Packet.j0, spec_l04Packet.j1, Int.reduceEq, Int.reduceBEq, Int.reduceAdd, if_true, if_false, Bool.false_eq_true, e1, e2, e3, e4 (k + 1) (by omega), e5, e6]
  · have hw : wrap64 2 = 2 := wrap_id _ (by omega)
    obtain ⟨q, i3, h3, e3, hq0, hq1, hc3⟩ := below_ok l i2 h2 8 hc2 (by omega)
    have hq : wrap64 (1 + q) = 1 + q := wrap_id _ (by omega)
    obtain ⟨ys, i4, h4, hl, hv, hc4, e4⟩ := data_ok l i3 h3 (1 + q) (by omega) hc3
    refine ⟨2, f, 0, 0, 0, 0, 0, ys, i4, h4, ?_, hc4, fun k hk => ?_⟩
    · exact pk_data hl hv (pk2 ⟨hf0, by omega⟩ (by omega))
    · obtain ⟨k, rfl⟩ : ∃ m, k = m + 2 := ⟨k - 2, by omega⟩
      unfold spec_l04Packet.f
      simp only [hw, hq, Option.bind_some, spec_l04Packet.j0, spec_l04Packet.j1, Int.reduceEq, Int.reduceBEq, Int.reduceAdd, if_true, if_false, Bool.false_eq_true, e1, e2, e3, e4 (k + 1) (by omega)]
  · have hw : wrap64 3 = 3 := wrap_id _ (by omega)
    obtain ⟨n, i3, h3, e3, hn, hc3⟩ := pick_ok l i2 h2 [1, 4, 8, 20, 64] hc2 (by simp)
    obtain ⟨y, i5, h5, e5, hy0, hy1, hc5⟩ := below_ok l i3 h3 60000 hc3 (by omega)
    obtain ⟨a, i6, h6, e6, ha, hc6⟩ := pick_ok l i5 h5 [0, 100, 4096, 65472, y] hc5 (by simp)
    obtain ⟨g, i7, h7, e7, hg0, hg1, hc7⟩ := below_ok l i6 h6 8 hc6 (by omega)
    simp only [List.mem_cons, List.not_mem_nil, or_false] at ha hn
    refine ⟨3, f, 0, a, n, g, 0, [], i7, h7, ?_, hc7, fun k hk => ?_⟩
    · exact pk_nil (pk3 ⟨hf0, by omega⟩ (by omega) (by omega) (by omega))
    · obtain ⟨k, rfl⟩ : ∃ m, k = m + 2 := ⟨k - 2, by omega⟩
      unfold spec_l04Packet.f
      simp only [hw, Option.bind_some, spec_l04Packet.j0, spec_l04Packet.j1, Int.reduceEq, Int.reduceBEq, Int.reduceAdd, if_true, if_false, Bool.false_eq_true, e1, e2, e3, e5, e6, e7]
  · have hw : wrap64 4 = 4 := wrap_id _ (by omega)
    obtain ⟨t, i3, h3, e3, ht0, ht1, hc3⟩ := below_ok l i2 h2 256 hc2 (by omega)
    obtain ⟨a, i4, h4, e4, ha0, ha1, hc4⟩ := below_ok l i3 h3 64 hc3 (by omega)
    obtain ⟨g, i5, h5, e5, hg0, hg1, hc5⟩ := below_ok l i4 h4 8 hc4 (by omega)
    refine ⟨4, f, t, a, 0, g, 0, [], i5, h5, ?_, hc5, fun k hk => ?_⟩
    · exact pk_nil (pk4 ⟨hf0, by omega⟩ (by omega) (by omega) (by omega))
    · obtain ⟨k, rfl⟩ : ∃ m, k = m + 2 := ⟨k - 2, by omega⟩
      unfold spec_l04Packet.f
      simp only [hw, Option.bind_some, spec_l04Packet.j0, spec_l04Packet.j1, Int.reduceEq, Int.reduceBEq, Int.reduceAdd, if_true, if_false, Bool.false_eq_true, e1, e2, e3, e4, e5]
  · have hw : wrap64 5 = 5 := wrap_id _ (by omega)
    obtain ⟨t, i3, h3, e3, ht0, ht1, hc3⟩ := below_ok l i2 h2 256 hc2 (by omega)
    obtain ⟨a, i4, h4, e4, ha0, ha1, hc4⟩ := below_ok l i3 h3 64 hc3 (by omega)
    obtain ⟨g, i5, h5, e5, hg0, hg1, hc5⟩ := below_ok l i4 h4 8 hc4 (by omega)
    obtain ⟨ys, i6, h6, hl, hv, hc6, e6⟩ := data_ok l i5 h5 1 (by omega) hc5
    refine ⟨5, f, t, a, 0, g, 0, ys, i6, h6, ?_, hc6, fun k hk => ?_⟩
    · exact pk_data hl hv (pk5 ⟨hf0, by omega⟩ (by omega) (by omega) (by omega))
    · obtain ⟨k, rfl⟩ : ∃ m, k = m + 2 := ⟨k - 2, by omega⟩
      unfold spec_l04Packet.f
      simp only [hw, Option.bind_some, spec_l04Packet.j0, spec_l04Packet.j1, Int.reduceEq, Int.reduceBEq, Int.reduceAdd, if_true, if_false, Bool.false_eq_true, e1, e2, e3, e4, e5, e6 k (by omega)]
  · have hw : wrap64 6 = 6 := wrap_id _ (by omega)
    obtain ⟨t, i3, h3, e3, ht0, ht1, hc3⟩ := below_ok l i2 h2 256 hc2 (by omega)
    obtain ⟨g, i4, h4, e4, hg0, hg1, hc4⟩ := below_ok l i3 h3 8 hc3 (by omega)
    obtain ⟨s, i5, h5, e5, hs, hc5⟩ := pick_ok l i4 h4 [0, 0, 0, 1, 2] hc4 (by simp)
    obtain ⟨n, i6, h6, e6, hn, hc6⟩ := pick_ok l i5 h5 [8, 0, 20, 64] hc5 (by simp)
    simp only [List.mem_cons, List.not_mem_nil, or_false] at hs hn
    by_cases hs0 : s = 0
    · obtain ⟨b, i7, h7, e7, hb0, hb1, hc7⟩ := below_ok l i6 h6 9 hc6 (by omega)
      have hmn : 0 ≤ mn n b ∧ mn n b ≤ 8 ∧ mn n b ≤ n := by unfold mn; split <;> omega
      obtain ⟨ys, i8, h8, hl, hv, hc8, e8⟩ := data_ok l i7 h7 (mn n b) (by omega) hc7
      refine ⟨6, f, t, 0, n, g, s, ys, i8, h8, ?_, hc8, fun k hk => ?_⟩
      · exact pk_data hl hv (pk6 ⟨hf0, by omega⟩ (by omega) (by omega) (by omega) (by omega) (by omega))
      · obtain ⟨k, rfl⟩ : ∃ m, k = m + 2 := ⟨k - 2, by omega⟩
        unfold spec_l04Packet.f
        simp only [hw, Option.bind_some, spec_l04Packet.j0, spec_l04Packet.j1, Int.reduceEq, Int.reduceBEq, Int.reduceAdd, if_true, if_false, Bool.false_eq_true, e1, e2, e3, e4, e5, e6, hs0, e7, e8 k (by omega)]
    · refine ⟨6, f, t, 0, n, g, s, [], i6, h6, ?_, hc6, fun k hk => ?_⟩
      · exact pk_nil (pk6 ⟨hf0, by omega⟩ (by omega) (by omega) (by omega) (by omega) (by omega))
      · obtain ⟨k, rfl⟩ : ∃ m, k = m + 2 := ⟨k - 2, by omega⟩
        unfold spec_l04Packet.f
        simp only [hw, Option.bind_some, spec_l04Packet.j0, spec_l04Packet.j1, Int.reduceEq, Int.reduceBEq, Int.reduceAdd, if_true, if_false, Bool.false_eq_true, e1, e2, e3, e4, e5, e6, hs0]
theorem pkB_len {K f t a n g s : Int} {l : List Int} (h : pkB K f t a n g s l = true) : l.length ≤ 8 := by
  unfold pkB at h
  have h := of_decide_eq_true h
  unfold pkQ at h
  have h := h.2.2
  omega
theorem drawPacket_ok (l : List Int) (hl : (l.length : Int) ≤ 140737488351232) : ∃ K f t a n g s xs, pkB K f t a n g s xs = true ∧ ∀ k, 4000 < k → spec_DrawPacket.f k l = some (K, f, t, a, n, g, s, xs) := by
  obtain ⟨h, e0⟩ := new_ok l
  obtain ⟨K, f, t, a, n, g, s, xs, i', h', hp, _, e1⟩ := packet_ok l 0 h ⟨by omega, by omega, hl⟩
  refine ⟨K, f, t, a, n, g, s, xs, hp, fun k hk => ?_⟩
  unfold spec_DrawPacket.f
  rw [e0 k hk]
  simp only [Option.bind_some]
  rw [e1 k (by omega)]
  rfl
theorem tdiv_range (x : Int) (h : 0 ≤ x ∧ x ≤ 65535) : 0 ≤ Int.tdiv x 256 ∧ Int.tdiv x 256 ≤ 255 := by
  rw [Int.tdiv_eq_ediv_of_nonneg h.1]
  omega
/-- The bytes of a valid packet are bytes. -/
theorem enc_l0 (l : List Int) (hl : l.length ≤ 8) (hw : l.all wordB = true) (d : Nat) : ∀ (i : Nat) (xs : List Int), i + d = l.length → xs.length = 8 + 2 * i → xs.all byteB = true → ∃ ys : List Int, ys.length = 8 + 2 * l.length ∧ ys.all byteB = true ∧ ∀ k, d < k → impl_EncodePacket.l0 k xs l (l.length : Int) (i : Int) = some ys := by
  induction d with
  | zero =>
    intro i xs hi hx hb
    refine ⟨xs, by omega, hb, fun k hk => ?_⟩
    obtain ⟨k, rfl⟩ : ∃ m, k = m + 1 := ⟨k - 1, by omega⟩
    simp only [impl_EncodePacket.l0]
    rw [if_neg (by omega)]
  | succ d ih =>
    intro i xs hi hx hb
    have hlt : i < l.length := by omega
    have h1 : wordB l[i] = true := List.all_eq_true.mp hw _ (List.getElem_mem hlt)
    have h2 : 0 ≤ l[i] ∧ l[i] ≤ 65535 := of_decide_eq_true h1
    have h3 := (tdiv_range l[i] h2)
    have h4 := tmod_range l[i] 256 h2.1 (by omega)
    have hw1 : wrap64 (Int.tdiv l[i] 256) = Int.tdiv l[i] 256 := wrap_id _ (by omega)
    obtain ⟨ys, g1, g2, g3⟩ := ih (i + 1) (xs ++ [Int.tdiv l[i] 256, Int.tmod l[i] 256]) (by omega) (by simp [hx]; omega) (by
      rw [List.all_append, hb, List.all_cons, List.all_cons, List.all_nil]
      simp only [byteB, Bool.and_true, Bool.true_and, Bool.and_eq_true, decide_eq_true_eq]
      omega)
    refine ⟨ys, g1, g2, fun k hk => ?_⟩
    obtain ⟨k, rfl⟩ : ∃ m, k = m + 1 := ⟨k - 1, by omega⟩
    simp only [impl_EncodePacket.l0]
    rw [if_pos (by omega), if_pos (by omega), if_pos (by omega), rd_lt l i hlt, hw1]
    simp only [Option.bind_some]
    rw [if_pos (by simp [hx]; omega), wrap_succ i (by omega)]
    exact g3 k (by omega)
theorem enc_ok {K f t a n g s : Int} {l : List Int} (h : pkB K f t a n g s l = true) : ∃ ys : List Int, ys.length = 8 + 2 * l.length ∧ ys.all byteB = true ∧ ∀ k, 1048600 < k → impl_EncodePacket.f k K f t a n g s l = some ys := by
  have hl := pkB_len h
  have hq : pkQ K f t a n g s (l.all wordB) (l.length : Int) := of_decide_eq_true h
  unfold pkQ at hq
  obtain ⟨hf, hw, hq⟩ := hq
  have ha : 0 ≤ a ∧ a ≤ 65535 := by omega
  have hg : 0 ≤ g ∧ g ≤ 7 := by omega
  have hs : 0 ≤ s ∧ s ≤ 2 := by omega
  have h3 := tdiv_range a ha
  have h4 := tmod_range a 256 ha.1 (by omega)
  have hw1 : wrap64 (Int.tdiv a 256) = Int.tdiv a 256 := wrap_id _ (by omega)
  have hw2 : wrap64 (wrap64 (g * 16) + s) = g * 16 + s := by rw [wrap_id (g * 16) (by omega), wrap_id _ (by omega)]
  obtain ⟨ys, g1, g2, g3⟩ := enc_l0 l hl hw l.length 0 [K, f, t, Int.tdiv a 256, Int.tmod a 256, n, g * 16 + s, (l.length : Int)] (by omega) rfl (by
    simp only [List.all_cons, List.all_nil, byteB, Bool.and_true, Bool.and_eq_true, decide_eq_true_eq]
    omega)
  refine ⟨ys, g1, g2, fun k hk => ?_⟩
  unfold impl_EncodePacket.f
  rw [iIsPacket_ev K f t a n g s l (by omega) k (by omega), h, hw1, hw2]
  simp only [Option.bind_some, if_true]
  exact g3 k (by omega)
theorem sameInts_l0 (a b : List Int) (hl : a.length = b.length) (hb : a.length < 9223372036854775807) (d : Nat) : ∀ (i : Nat), i + d = a.length → ∀ k, d < k → laws_sameInts.l0 k a b (i : Int) = some (decide (a.drop i = b.drop i)) := by
  induction d with
  | zero =>
    intro i hi k hk
    obtain ⟨k, rfl⟩ : ∃ m, k = m + 1 := ⟨k - 1, by omega⟩
    simp only [laws_sameInts.l0]
    rw [if_neg (show ¬ (i : Int) < (a.length : Int) by omega), drop_all a i (by omega), drop_all b i (by omega)]
    simp
  | succ d ih =>
    intro i hi k hk
    obtain ⟨k, rfl⟩ : ∃ m, k = m + 1 := ⟨k - 1, by omega⟩
    simp only [laws_sameInts.l0]
    rw [if_pos (show (i : Int) < (a.length : Int) by omega), if_pos (show (0 : Int) ≤ (i : Int) by omega), if_pos (show (i : Int) < (b.length : Int) by omega)]
    by_cases he : rd a (i : Int) = rd b (i : Int)
    · rw [if_pos he, wrap_succ i (by omega), ih (i + 1) (by omega) k (by omega)]
      congr 1
      rw [decide_eq_decide, drop_eq_iff a b i (by omega) (by omega)]
      exact ⟨fun h => ⟨he, h⟩, fun h => h.2⟩
    · rw [if_neg he]
      congr 1
      symm
      rw [decide_eq_false_iff_not, drop_eq_iff a b i (by omega) (by omega)]
      exact fun h => he h.1
theorem sameInts_ev (a b : List Int) (hb : a.length < 9223372036854775807) : ∀ k, a.length < k → laws_sameInts.f k a b = some (decide (a = b)) := by
  intro k hk
  unfold laws_sameInts.f
  by_cases hl : a.length = b.length
  · rw [if_pos (by omega)]
    exact sameInts_l0 a b hl hb a.length 0 (by omega) k hk
  · rw [if_neg (by omega), decide_eq_false (fun h => hl (by rw [h]))]
theorem equal_l0 (a b : List Int) (hl : a.length = b.length) (hb : a.length < 9223372036854775807) (d : Nat) : ∀ (i : Nat), i + d = a.length → ∀ k, d < k → slices_Equal_int_int.l0 k a b (((a.length : Nat) : Int)) (i : Int) = some (decide (a.drop i = b.drop i)) := by
  induction d with
  | zero =>
    intro i hi k hk
    obtain ⟨k, rfl⟩ : ∃ m, k = m + 1 := ⟨k - 1, by omega⟩
    simp only [slices_Equal_int_int.l0]
    rw [if_neg (show ¬ (i : Int) < (a.length : Int) by omega), drop_all a i (by omega), drop_all b i (by omega)]
    simp
  | succ d ih =>
    intro i hi k hk
    obtain ⟨k, rfl⟩ : ∃ m, k = m + 1 := ⟨k - 1, by omega⟩
    simp only [slices_Equal_int_int.l0]
    rw [if_pos (show (i : Int) < (a.length : Int) by omega), if_pos (show (0 : Int) ≤ (i : Int) by omega), if_pos (show (i : Int) < (a.length : Int) by omega), if_pos (show (i : Int) < (b.length : Int) by omega)]
    by_cases he : rd a (i : Int) = rd b (i : Int)
    · rw [if_pos he, wrap_succ i (by omega), ih (i + 1) (by omega) k (by omega)]
      congr 1
      rw [decide_eq_decide, drop_eq_iff a b i (by omega) (by omega)]
      exact ⟨fun h => ⟨he, h⟩, fun h => h.2⟩
    · rw [if_neg he]
      congr 1
      symm
      rw [decide_eq_false_iff_not, drop_eq_iff a b i (by omega) (by omega)]
      exact fun h => he h.1
theorem equal_ev (a b : List Int) (hb : a.length < 9223372036854775807) : ∀ k, a.length < k → slices_Equal_int_int.f k a b = some (decide (a = b)) := by
  intro k hk
  unfold slices_Equal_int_int.f
  by_cases hl : a.length = b.length
  · rw [if_pos (by omega)]
    exact equal_l0 a b hl hb a.length 0 (by omega) k hk
  · rw [if_neg (by omega), decide_eq_false (fun h => hl (by rw [h]))]
def seqB (a : Int) : Bool := decide (0 ≤ a ∧ a ≤ 15)
theorem iIsSeq_eq (a : Int) : impl_IsSeq.f a = some (seqB a) := by
  unfold impl_IsSeq.f
  rw [within_eq]
  rfl
theorem ofInt_64g (a : Nat) (ha : a < 131072) : (BitVec.ofInt 64 (a : Int)).toNat = a := by
  rw [BitVec.toNat_ofInt]; omega
theorem i64_xor_natg (a b : Nat) (ha : a < 131072) (hb : b < 131072) : Go.bits .xor .i64 (a : Int) (b : Int) = ((a ^^^ b : Nat) : Int) := by
  have hx : a ^^^ b < 2 ^ 17 := Nat.xor_lt_two_pow (by omega) (by omega)
  show IntKind.i64.wrap ((BitVec.ofInt 64 (a : Int) ^^^ BitVec.ofInt 64 (b : Int)).toNat : Int) = _
  rw [BitVec.toNat_xor, ofInt_64g a ha, ofInt_64g b hb, IntKind.wrap_i64]
  omega
theorem xor_small (a b : Int) (ha : 0 ≤ a ∧ a ≤ 65535) (hb : 0 ≤ b ∧ b ≤ 65535) : 0 ≤ Go.bits .xor .i64 a b ∧ Go.bits .xor .i64 a b ≤ 65535 := by
  obtain ⟨x, rfl⟩ := Int.eq_ofNat_of_zero_le ha.1
  obtain ⟨y, rfl⟩ := Int.eq_ofNat_of_zero_le hb.1
  have hx : x ^^^ y < 2 ^ 16 := Nat.xor_lt_two_pow (by omega) (by omega)
  rw [i64_xor_natg x y (by omega) (by omega)]
  omega
theorem xor_top (a : Int) (ha : 65536 ≤ a ∧ a ≤ 131071) : 0 ≤ Go.bits .xor .i64 a 69665 ∧ Go.bits .xor .i64 a 69665 ≤ 65535 := by
  obtain ⟨x, rfl⟩ := Int.eq_ofNat_of_zero_le (show 0 ≤ a by omega)
  have hx : x ^^^ 69665 < 2 ^ 16 := by
    apply Nat.lt_pow_two_of_testBit
    intro i hi
    rw [Nat.testBit_xor]
    by_cases h : i = 16
    · subst h
      have h1 : x.testBit 16 = true := by rw [Nat.testBit_eq_decide_div_mod_eq]; exact decide_eq_true (by omega)
      rw [h1]
      decide
    · have hp : 2 ^ 17 ≤ 2 ^ i := Nat.pow_le_pow_right (by omega) (by omega)
      rw [Nat.testBit_lt_two_pow (show x < 2 ^ i by omega), Nat.testBit_lt_two_pow (show 69665 < 2 ^ i by omega)]
      rfl
  rw [show (69665 : Int) = ((69665 : Nat) : Int) from rfl, i64_xor_natg x 69665 (by omega) (by omega)]
  omega
/-- The check's steps. -/
def ckb : Nat → Int → Int
  | 0, s => s
  | d + 1, s => ckb d (if wrap64 (s * 2) > 65535 then Go.bits .xor .i64 (wrap64 (s * 2)) 69665 else wrap64 (s * 2))
def ck : Int → List Int → Int
  | s, [] => s
  | s, b :: r => ck (ckb 8 (Go.bits .xor .i64 s (wrap64 (b * 256)))) r
theorem ckb_range (d : Nat) : ∀ s : Int, 0 ≤ s ∧ s ≤ 65535 → 0 ≤ ckb d s ∧ ckb d s ≤ 65535 := by
  induction d with
  | zero => intro s h; exact h
  | succ d ih =>
    intro s h
    have hw : wrap64 (s * 2) = s * 2 := wrap_id _ (by omega)
    rw [ckb, hw]
    apply ih
    by_cases h1 : s * 2 > 65535
    · rw [if_pos h1]; exact xor_top _ (by omega)
    · rw [if_neg h1]; omega
theorem ck_range (l : List Int) : ∀ s : Int, 0 ≤ s ∧ s ≤ 65535 → l.all byteB = true → 0 ≤ ck s l ∧ ck s l ≤ 65535 := by
  induction l with
  | nil => intro s h _; exact h
  | cons b r ih =>
    intro s h hb
    rw [List.all_cons, Bool.and_eq_true] at hb
    have hb0 : 0 ≤ b ∧ b ≤ 255 := of_decide_eq_true hb.1
    have hw : wrap64 (b * 256) = b * 256 := wrap_id _ (by omega)
    rw [ck, hw]
    exact ih _ (ckb_range 8 _ (xor_small _ _ h (by omega))) hb.2
theorem iCheck_l1 (l : List Int) (n i : Int) (d : Nat) : ∀ (j : Nat) (s : Int), j + d = 8 → ∀ k, impl_CheckOf.l1 (k + d + 1) s l n i (j : Int) = impl_CheckOf.l0 k (ckb d s) l n (wrap64 (i + 1)) := by
  induction d with
  | zero =>
    intro j s hj k
    simp only [impl_CheckOf.l1]
    rw [if_neg (by omega)]
    rfl
  | succ d ih =>
    intro j s hj k
    rw [show k + (d + 1) + 1 = (k + d + 1) + 1 from rfl]
    simp only [impl_CheckOf.l1]
    rw [if_pos (show (j : Int) < 8 by omega), wrap_succ j (by omega), ckb]
    by_cases h : wrap64 (s * 2) > 65535
    · rw [if_pos h, if_pos h]; exact ih (j + 1) _ (by omega) k
    · rw [if_neg h, if_neg h]; exact ih (j + 1) _ (by omega) k
theorem iCheck_l0 (l : List Int) (hl : l.length ≤ 1048576) (d : Nat) : ∀ (i : Nat) (s : Int), i + d = l.length → ∀ k, 10 * d < k → impl_CheckOf.l0 k s l (l.length : Int) (i : Int) = some (ck s (l.drop i)) := by
  induction d with
  | zero =>
    intro i s hi k hk
    obtain ⟨k, rfl⟩ : ∃ m, k = m + 1 := ⟨k - 1, by omega⟩
    simp only [impl_CheckOf.l0]
    rw [if_neg (by omega), drop_all l i (by omega)]
    rfl
  | succ d ih =>
    intro i s hi k hk
    obtain ⟨k, rfl⟩ : ∃ m, k = m + 8 + 1 + 1 := ⟨k - 10, by omega⟩
    have hlt : i < l.length := by omega
    rw [impl_CheckOf.l0]
    rw [if_pos (by omega), if_pos (by omega), if_pos (by omega), rd_lt l i hlt]
    rw [show (0 : Int) = ((0 : Nat) : Int) from rfl, iCheck_l1 l (l.length : Int) (i : Int) 8 0 _ (by omega) k, wrap_succ i (by omega), ih (i + 1) _ (by omega) k (by omega), drop_cons l i hlt]
    rfl
theorem iCheck_ev (l : List Int) (h : bytesB l = true) (k : Nat) (hk : 1000 < k) : impl_CheckOf.f k l = some (ck 65535 l) := by
  have h40 : l.length ≤ 40 := by unfold bytesB at h; simp at h; exact h.2
  unfold impl_CheckOf.f
  rw [iAreBytes_ev l k (by omega), h]
  simp only [Option.bind_some, if_true]
  exact iCheck_l0 l (by omega) l.length 0 _ (by omega) k (by omega)
theorem clone_ev (l : List Int) (hl : l.length ≤ 1048580) : slices_Clone_int_int.f l = some l := by
  unfold slices_Clone_int_int.f
  simp only [Option.bind_some, List.nil_append, List.length_nil]
  rw [if_pos (by omega)]
/-- Bytes with their check behind them. -/
def addCk (l : List Int) : List Int := l ++ [ck 65535 l / 256, ck 65535 l % 256]
theorem split_ev (c : Int) (h : 0 ≤ c ∧ c ≤ 65535) : impl_SplitWord.f c = some (c / 256, c % 256) := by
  unfold impl_SplitWord.f impl_isWord.f
  rw [within_eq, decide_eq_true h]
  simp only [Option.bind_some, if_true]
  rw [Int.tdiv_eq_ediv_of_nonneg h.1, Int.tmod_eq_emod_of_nonneg h.1, wrap_id _ (by omega)]
theorem bytesB_iff (l : List Int) : bytesB l = true ↔ l.all byteB = true ∧ l.length ≤ 40 := by
  unfold bytesB
  rw [Bool.and_eq_true, decide_eq_true_eq]
theorem iAddCheck_ev (l : List Int) (hl : l.length ≤ 1048580) (k : Nat) (hk : 1100 < k) : impl_AddCheck.f k l = some (if bytesB l = true ∧ l.length ≤ 38 then addCk l else []) := by
  obtain ⟨k, rfl⟩ : ∃ m, k = m + 1 := ⟨k - 1, by omega⟩
  unfold impl_AddCheck.f
  rw [iAreBytes_ev l _ (by omega)]
  simp only [Option.bind_some, impl_AddCheck.j0]
  by_cases hb : bytesB l = true
  · rw [if_pos hb]
    by_cases h38 : (l.length : Int) > 38
    · rw [decide_eq_true h38, if_pos rfl, if_neg (by omega)]
    · have hc := ck_range l 65535 (by omega) ((bytesB_iff l).1 hb).1
      rw [decide_eq_false h38, if_neg (by decide), if_pos ⟨hb, by omega⟩, iCheck_ev l hb _ (by omega)]
      simp only [Option.bind_some]
      rw [split_ev _ hc]
      simp only [Option.bind_some]
      rw [clone_ev l hl]
      simp only [Option.bind_some]
      rw [if_pos (by simp; omega)]
      rfl
  · rw [if_neg hb, if_pos trivial, if_neg (fun h => hb h.1)]
theorem iWire_ev (e : Int) (l : List Int) (hl : l.length ≤ 1048576) (k : Nat) (hk : 1100 < k) : impl_WireFrame.f k e l = some (if seqB e = true ∧ bytesB (e :: l) = true ∧ l.length ≤ 37 then addCk (e :: l) else []) := by
  unfold impl_WireFrame.f
  rw [iIsSeq_eq]
  simp only [Option.bind_some]
  by_cases hs : seqB e = true
  · rw [if_pos hs, if_pos (by simp; omega)]
    rw [show [e] ++ l = e :: l from rfl, iAddCheck_ev (e :: l) (by simp; omega) k hk]
    simp only [Option.bind_some]
    congr 1
    by_cases hb : bytesB (e :: l) = true ∧ (e :: l).length ≤ 38
    · rw [if_pos hb, if_pos ⟨hs, hb.1, by have := hb.2; simp at this; omega⟩]
    · rw [if_neg hb, if_neg (fun h => hb ⟨h.2.1, by have := h.2.2; simp; omega⟩)]
  · rw [if_neg hs, if_neg (fun h => hs h.1)]
/-- A row of bytes that ends with the check of what stands before. -/
def takeOk (l : List Int) : Prop := 2 ≤ l.length ∧ bytesB l = true ∧ addCk (l.take (l.length - 2)) = l
instance (l : List Int) : Decidable (takeOk l) := by unfold takeOk; infer_instance
def tcR (l : List Int) : List Int × Bool := if takeOk l then (l.take (l.length - 2), true) else ([], false)
theorem bytesB_take (l : List Int) (n : Nat) (h : bytesB l = true) : bytesB (l.take n) = true := by
  rw [bytesB_iff] at h ⊢
  refine ⟨List.all_eq_true.mpr fun x hx => List.all_eq_true.mp h.1 x (List.mem_of_mem_take hx), ?_⟩
  rw [List.length_take]
  omega
theorem iTakeCheck_ev (l : List Int) (hl : l.length ≤ 1048576) (k : Nat) (hk : 1200 < k) : impl_TakeCheck.f k l = some (tcR l) := by
  unfold impl_TakeCheck.f tcR
  have hw : wrap64 ((l.length : Int) - 2) = (l.length : Int) - 2 := wrap_id _ (by omega)
  rw [hw]
  by_cases h2 : (l.length : Int) - 2 < 0
  · rw [if_pos h2, if_neg (fun h => by have := h.1; omega)]
  rw [if_neg h2, iAreBytes_ev l k (by omega)]
  simp only [Option.bind_some]
  by_cases hb : bytesB l = true
  · have hn : ((l.length : Int) - 2).toNat = l.length - 2 := by omega
    have h40 := ((bytesB_iff l).1 hb).2
    rw [if_pos hb, if_pos (by omega), if_pos (by omega), hn, iAddCheck_ev (l.take (l.length - 2)) (by rw [List.length_take]; omega) k (by omega)]
    simp only [Option.bind_some]
    rw [if_pos ⟨bytesB_take l _ hb, by rw [List.length_take]; omega⟩, equal_ev _ _ (by simp only [addCk, List.length_append, List.length_take, List.length_cons, List.length_nil]; omega) k (by simp only [addCk, List.length_append, List.length_take, List.length_cons, List.length_nil]; omega)]
    simp only [Option.bind_some]
    by_cases he : addCk (l.take (l.length - 2)) = l
    · rw [if_pos (decide_eq_true he), clone_ev _ (by rw [List.length_take]; omega), if_pos ⟨by omega, hb, he⟩]
      rfl
    · rw [decide_eq_false he, if_neg (by decide), if_neg (fun h => he h.2.2)]
  · rw [if_neg hb, if_neg (fun h => hb h.2.1)]
def twR (l : List Int) : Int × List Int × Bool := if takeOk l then (match l.take (l.length - 2) with | [] => (0, [], false) | a :: r => if seqB a = true then (a, r, true) else (0, [], false)) else (0, [], false)
theorem iTakeWire_ev (l : List Int) (hl : l.length ≤ 1048576) (k : Nat) (hk : 1200 < k) : impl_TakeWire.f k l = some (twR l) := by
  unfold impl_TakeWire.f twR
  rw [iTakeCheck_ev l hl k hk]
  simp only [Option.bind_some]
  unfold tcR
  by_cases h : takeOk l
  · simp only [if_pos h, if_true]
    generalize l.take (l.length - 2) = m
    cases m with
    | nil => rfl
    | cons a r =>
      have r0 : rd (a :: r) 0 = a := rfl
      have d1 : (a :: r).drop (1 : Int).toNat = r := rfl
      rw [if_neg (by simp only [List.length_cons]; omega), if_pos (by simp only [List.length_cons]; omega), r0, iIsSeq_eq, d1]
      simp only [Option.bind_some]
      by_cases hs : seqB a = true
      · rw [if_pos hs, if_pos (by simp only [List.length_cons]; omega), if_pos hs]
      · rw [if_neg hs, if_neg hs]
  · simp only [if_neg h, if_false]
    rfl
/-- The steps from a sequence number to another. -/
def stepsTo (n x : Int) : Int := if seqB n = true ∧ seqB x = true then (x - n + 16) % 16 else -1
def oldB (n x : Int) : Bool := decide (1 ≤ stepsTo n x ∧ stepsTo n x ≤ 7)
theorem iDist_ev (n x : Int) : impl_SeqDistance.f n x = some (stepsTo n x) := by
  unfold impl_SeqDistance.f stepsTo
  rw [iIsSeq_eq, iIsSeq_eq]
  simp only [Option.bind_some]
  by_cases h1 : seqB n = true
  · by_cases h2 : seqB x = true
    · have g1 : 0 ≤ n ∧ n ≤ 15 := of_decide_eq_true h1
      have g2 : 0 ≤ x ∧ x ≤ 15 := of_decide_eq_true h2
      rw [if_pos h1, if_pos h2, if_pos ⟨h1, h2⟩, wrap_id (x - n) (by omega), wrap_id _ (by omega), Int.tmod_eq_emod_of_nonneg (by omega)]
    · rw [if_pos h1, if_neg h2, if_neg (fun h => h2 h.2)]
  · rw [if_neg h1, if_neg (fun h => h1 h.1)]
theorem iIsOld_ev (n x : Int) : impl_IsOld.f n x = some (oldB n x) := by
  unfold impl_IsOld.f oldB
  rw [iDist_ev]
  simp only [Option.bind_some]
  rw [within_eq]
  rfl
def recB (a : Int) (l : List (List Int)) : Bool := l.all bytesB && (seqB a && decide (l.length ≤ 1000))
theorem rdL_lt (l : List (List Int)) (i : Nat) (h : i < l.length) : rd_L2 l (i : Int) = l[i] := by
  show l.getD i ([] : List Int) = l[i]
  simp [h]
theorem notBytes_eq (k : Nat) (hk : 40 < k) (x : List Int) : impl_areLists_1.f k x = some (!bytesB x) := by
  unfold impl_areLists_1.f
  rw [iAreBytes_ev x k hk]
  rfl
theorem cLists_l0 (l : List (List Int)) (hl : l.length ≤ 1048576) (d : Nat) : ∀ i : Nat, i + d = l.length → ∀ k, 41 + d < k → ∃ r, slices_IndexFunc_int_int__impl_areLists_1.l0 k l (l.length : Int) (i : Int) = some r ∧ decide (r ≥ 0) = (l.drop i).any (fun x => !bytesB x) := by
  induction d with
  | zero =>
    intro i hi k hk
    obtain ⟨k, rfl⟩ : ∃ m, k = m + 1 := ⟨k - 1, by omega⟩
    refine ⟨-1, ?_, ?_⟩
    · simp only [slices_IndexFunc_int_int__impl_areLists_1.l0]
      rw [if_neg (show ¬ (i : Int) < (l.length : Int) by omega)]
    · rw [drop_all l i (by omega)]; rfl
  | succ d ih =>
    intro i hi k hk
    obtain ⟨k, rfl⟩ : ∃ m, k = m + 1 := ⟨k - 1, by omega⟩
    have hlt : i < l.length := by omega
    simp only [slices_IndexFunc_int_int__impl_areLists_1.l0]
    rw [if_pos (show (i : Int) < (l.length : Int) by omega), if_pos (show (0 : Int) ≤ (i : Int) by omega), if_pos (show (i : Int) < (l.length : Int) by omega), rdL_lt l i hlt, notBytes_eq k (by omega) l[i]]
    simp only [Option.bind_some]
    by_cases hp : (fun x => !bytesB x) l[i] = true
    · rw [if_pos hp]
      exact ⟨_, rfl, by rw [any_drop_yes l i hlt _ hp, decide_eq_true (by omega)]⟩
    · rw [if_neg hp, wrap_succ i (by omega)]
      obtain ⟨r, h1, h2⟩ := ih (i + 1) (by omega) k (by omega)
      exact ⟨r, h1, by rw [h2, any_drop_no l i hlt _ hp]⟩
theorem cLists_ev (l : List (List Int)) (hl : l.length ≤ 1048576) (k : Nat) (hk : 41 + l.length < k) : slices_ContainsFunc_int_int__impl_areLists_1.f k l = some (l.any (fun x => !bytesB x)) := by
  obtain ⟨r, h1, h2⟩ := cLists_l0 l hl l.length 0 (by omega) k hk
  unfold slices_ContainsFunc_int_int__impl_areLists_1.f slices_IndexFunc_int_int__impl_areLists_1.f
  have c0 : ((0 : Nat) : Int) = 0 := rfl
  rw [c0] at h1
  rw [h1]
  simp only [Option.bind_some]
  rw [h2]; rfl
theorem iAreLists_ev (l : List (List Int)) (hl : l.length ≤ 1048576) (k : Nat) (hk : 1048620 < k) : impl_areLists.f k l = some (l.all bytesB) := by
  unfold impl_areLists.f
  rw [cLists_ev l hl k (by omega)]
  simp only [Option.bind_some]
  rw [any_not]
theorem iReceiverOk_ev (a : Int) (l : List (List Int)) (hl : l.length ≤ 1048576) (k : Nat) (hk : 1048620 < k) : impl_ReceiverOk.f k a l = some (recB a l) := by
  unfold impl_ReceiverOk.f recB
  rw [iIsSeq_eq]
  simp only [Option.bind_some]
  by_cases hs : seqB a = true
  · rw [if_pos hs, hs]
    by_cases h : (l.length : Int) ≤ 1000
    · rw [if_pos h, iAreLists_ev l hl k hk, decide_eq_true (show l.length ≤ 1000 by omega)]
      simp
    · rw [if_neg h, decide_eq_false (show ¬ l.length ≤ 1000 by omega)]
      simp
  · rw [if_neg hs, Bool.eq_false_iff.mpr hs]
    simp
/-- The verdict on a row of bytes. -/
def judR (e : Int) (l : List (List Int)) (w : List Int) : Int := if (twR w).2.2 = true ∧ recB e l = true then if (twR w).1 = e then 0 else if oldB (twR w).1 e = true then 1 else 2 else 3
theorem iJudge_ev (e : Int) (l : List (List Int)) (w : List Int) (hl : l.length ≤ 1048576) (hw : w.length ≤ 1048576) (k : Nat) (hk : 1048700 < k) : impl_Judge.f k e l w = some (judR e l w) := by
  obtain ⟨k, rfl⟩ : ∃ m, k = m + 1 := ⟨k - 1, by omega⟩
  unfold impl_Judge.f judR
  rw [iTakeWire_ev w hw _ (by omega)]
  simp only [Option.bind_some, impl_Judge.j0]
  by_cases h1 : (twR w).2.2 = true
  · rw [if_pos h1, iReceiverOk_ev e l hl _ (by omega)]
    simp only [Option.bind_some]
    by_cases h2 : recB e l = true
    · rw [h2, if_neg (by decide), if_pos (show (twR w).2.2 = true ∧ true = true from ⟨h1, rfl⟩)]
      by_cases h3 : (twR w).1 = e
      · rw [if_pos h3, if_pos h3]
      · rw [if_neg h3, if_neg h3, iIsOld_ev]
        simp only [Option.bind_some]
        by_cases h4 : oldB (twR w).1 e = true
        · rw [if_pos h4, if_pos h4]
        · rw [if_neg h4, if_neg h4]
    · rw [Bool.eq_false_iff.mpr h2, if_pos (by decide), if_neg (show ¬ ((twR w).2.2 = true ∧ false = true) from fun h => by cases h.2)]
  · rw [if_neg h1, if_pos trivial, if_neg (fun h => h1 h.1)]

theorem rd_range (p : List Int) (hp : p.length = 12) (hr : ∀ x ∈ p, 0 ≤ x ∧ x < 10000) (i : Nat) (hi : i < 12) : 0 ≤ rd p (i : Int) ∧ rd p (i : Int) < 10000 := by
  rw [rd_lt p i (by omega)]
  exact hr _ (List.getElem_mem _)
theorem addCk_len (l : List Int) : (addCk l).length = l.length + 2 := by
  unfold addCk
  rw [List.length_append]
  rfl
theorem copyNil_ev (k : Nat) (hk : 0 < k) : impl_copyLists.f k [] = some [] := by
  obtain ⟨k, rfl⟩ : ∃ m, k = m + 1 := ⟨k - 1, by omega⟩
  rfl
theorem copyOne_ev (b : List Int) (hb : b.length ≤ 1048576) (k : Nat) (hk : 2 < k) : impl_copyLists.f k [b] = some [b] := by
  obtain ⟨k, rfl⟩ : ∃ m, k = m + 2 := ⟨k - 2, by omega⟩
  unfold impl_copyLists.f
  simp only [impl_copyLists.l0]
  have r0 : rd_L2 [b] 0 = b := rfl
  have w0 : wrap64 (0 + 1) = 1 := by rw [wrap_id _ (by omega)]; rfl
  rw [if_pos (by simp), if_pos (by omega), if_pos (by simp), r0, clone_ev b (by omega)]
  simp only [Option.bind_some]
  rw [if_pos (by simp), w0, if_neg (by simp)]
  rfl
theorem FnReceivers : laws_FnReceivers.Pure := by
  intro l hm hl _
  have hl : (l.length : Int) ≤ 140737488351232 := by omega
  obtain ⟨K, f, t, a, n, g, z, xs, hp, e2⟩ := drawPacket_ok l hl
  obtain ⟨b, hb1, hb2, e3⟩ := enc_ok hp
  obtain ⟨p, hp1, hp2, e4⟩ := places_ok l hl
  have hx8 := pkB_len hp
  have hbl : b.length ≤ 24 := by omega
  have hbB : bytesB b = true := (bytesB_iff b).2 ⟨hb2, by omega⟩
  obtain ⟨q0, q1⟩ := rd_range p hp1 hp2 0 (by omega)
  have u := tmod_range (rd p ((0 : Nat) : Int)) 16 q0 (by omega)
  obtain ⟨e, he⟩ : ∃ e : Int, e = Int.tmod (rd p 0) 16 := ⟨_, rfl⟩
  have hu : 0 ≤ e ∧ e ≤ 15 := by
    have : e = Int.tmod (rd p ((0 : Nat) : Int)) 16 := he
    omega
  have hs : seqB e = true := decide_eq_true hu
  have heb : bytesB (e :: b) = true := (bytesB_iff _).2 ⟨by rw [List.all_cons, hb2, Bool.and_true]; exact decide_eq_true (by omega), by simp only [List.length_cons]; omega⟩
  have hwire : ∀ k, 1100 < k → impl_WireFrame.f k e b = some (addCk (e :: b)) := fun k hk => by
    rw [iWire_ev e b (by omega) k hk, if_pos ⟨hs, heb, by omega⟩]
  have hck := ck_range (e :: b) 65535 (by omega) ((bytesB_iff _).1 heb).1
  have hwl : (addCk (e :: b)).length = b.length + 3 := by rw [addCk_len]; rfl
  have htake : (addCk (e :: b)).take ((addCk (e :: b)).length - 2) = e :: b := by
    rw [hwl]
    unfold addCk
    exact List.take_left' (by simp only [List.length_cons]; omega)
  have hok : takeOk (addCk (e :: b)) := by
    refine ⟨by omega, ?_, by rw [htake]⟩
    rw [bytesB_iff]
    refine ⟨?_, by omega⟩
    unfold addCk
    rw [List.all_append, ((bytesB_iff _).1 heb).1, List.all_cons, List.all_cons, List.all_nil]
    simp only [byteB, Bool.and_true, Bool.true_and, Bool.and_eq_true, decide_eq_true_eq]
    omega
  have htw : twR (addCk (e :: b)) = (e, b, true) := by
    unfold twR
    rw [if_pos hok, htake]
    simp only [hs, if_true]
  obtain ⟨w, hw⟩ : ∃ w, w = addCk (e :: b) := ⟨_, rfl⟩
  rw [← hw] at hwire htw hwl
  have hn : 0 ≤ (e + 1) % 16 ∧ (e + 1) % 16 ≤ 15 := by omega
  have hs' : seqB ((e + 1) % 16) = true := decide_eq_true hn
  have hr0 : recB e [] = true := by unfold recB; rw [hs]; rfl
  have hr1 : recB ((e + 1) % 16) [b] = true := by unfold recB; rw [hs']; simp [hbB]
  have hnext : impl_NextSeq.f e = some ((e + 1) % 16) := by
    unfold impl_NextSeq.f
    rw [iIsSeq_eq, hs]
    simp only [Option.bind_some, if_true]
    rw [wrap_id _ (by omega), Int.tmod_eq_emod_of_nonneg (by omega)]
  have hj0 : ∀ k, 1048700 < k → impl_Judge.f k e [] w = some 0 := fun k hk => by
    rw [iJudge_ev e [] w (by simp) (by omega) k hk]
    unfold judR
    rw [htw, if_pos ⟨rfl, hr0⟩, if_pos rfl]
  have hold : oldB e ((e + 1) % 16) = true := by
    unfold oldB stepsTo
    rw [if_pos ⟨hs, hs'⟩]
    exact decide_eq_true (by omega)
  have hj1 : ∀ k, 1048700 < k → impl_Judge.f k ((e + 1) % 16) [b] w = some 1 := fun k hk => by
    rw [iJudge_ev _ [b] w (by simp) (by omega) k hk]
    unfold judR
    rw [htw, if_pos ⟨rfl, hr1⟩, if_neg (by omega), if_pos hold]
  have ht0 : ∀ k, 1048700 < k → impl_TakeFrame.f k e [] w = some ((e + 1) % 16, [b], 0) := fun k hk => by
    unfold impl_TakeFrame.f impl_copyReceiver.f
    rw [copyNil_ev k (by omega)]
    simp only [Option.bind_some]
    rw [hj0 k hk]
    simp only [Option.bind_some]
    rw [if_pos (by simp), if_neg (by simp), iTakeWire_ev w (by omega) k (by omega), htw]
    simp only [Option.bind_some]
    rw [clone_ev b (by omega)]
    simp only [Option.bind_some]
    rw [if_pos (by simp), hnext]
    rfl
  have ht1 : ∀ k, 1048700 < k → impl_TakeFrame.f k ((e + 1) % 16) [b] w = some ((e + 1) % 16, [b], 1) := fun k hk => by
    unfold impl_TakeFrame.f impl_copyReceiver.f
    rw [copyOne_ev b (by omega) k (by omega)]
    simp only [Option.bind_some]
    rw [hj1 k hk]
    simp only [Option.bind_some]
    rw [if_neg (by simp)]
  have hack : ∀ k, 1048700 < k → impl_AckOf.f k ((e + 1) % 16) [b] = some e := fun k hk => by
    unfold impl_AckOf.f
    rw [iReceiverOk_ev _ [b] (by simp) k (by omega), hr1]
    simp only [Option.bind_some, if_true]
    rw [wrap_id ((e + 1) % 16 + 16) (by omega), wrap_id _ (by omega), Int.tmod_eq_emod_of_nonneg (by omega)]
    congr 1
    omega
  have rb : rd_L2 [b] 0 = b := rfl
  refine ⟨1100000, ?_⟩
  unfold laws_FnReceivers.f laws_big.f
  simp only [Option.bind_some]
  by_cases hbig : (l.length : Int) > 1048576
  · rw [decide_eq_true hbig, if_pos rfl]
  rw [decide_eq_false hbig, if_neg (by decide), e2 _ (by omega)]
  simp only [Option.bind_some]
  rw [e3 _ (by omega)]
  simp only [Option.bind_some]
  rw [e4 _ (by omega)]
  simp only [Option.bind_some]
  rw [if_pos (by omega), ← he, hwire _ (by omega)]
  simp only [Option.bind_some]
  rw [iTakeWire_ev w (by omega) _ (by omega), htw]
  simp only [Option.bind_some]
  rw [ht0 _ (by omega)]
  simp only [Option.bind_some]
  rw [ht1 _ (by omega)]
  simp only [Option.bind_some, if_true]
  rw [sameInts_ev b b (by omega) _ (by omega)]
  simp only [Option.bind_some, decide_true, if_true]
  rw [if_pos (by simp), if_pos (by simp), rb, sameInts_ev b b (by omega) _ (by omega)]
  simp only [Option.bind_some, decide_true, if_true]
  rw [if_pos (by simp), hack _ (by omega)]
  simp only [Option.bind_some, if_true]
  rw [iReceiverOk_ev _ [b] (by simp) _ (by omega), hr1]
  simp only [Option.bind_some, if_true]
  rw [hj0 _ (by omega)]
  simp

end Go.Proofs.Ytojipnenoiiadaa.Pure
