/- The statement FnLanes over lists of whole numbers: the bytes of a packet that are parted over lanes, delayed, cut behind their marks and put together again are the same bytes; and lanes turned about twice are the same lanes. -/
import Derived.Test.YtoafbbopicbofaaPFnLanesx12
import Derived.Test.YtoafbbopicbofaaVLists
namespace Go.Proofs.Ytoafbbopicbofaa.Pure
set_option linter.unusedVariables false
set_option linter.unusedSimpArgs false
open Go.RowKit Go.Proofs.Ytoafbbopicbofaa.PFnLanes Go.Proofs.YtoafbbopicbofaaW.PrintWords Go.Proofs.YtoafbbopicbofaaW.PrintLast Go.Proofs.YtoafbbopicbofaaW.PrintMore Go.Proofs.YtoafbbopicbofaaX

theorem within_eq (a l m : Int) : impl_within.f a l m = some (decide (l ≤ a ∧ a ≤ m)) := by
  unfold impl_within.f
  by_cases h : a ≥ l
  · have h' : l ≤ a := h
    rw [if_pos h]; simp [h']
  · have h' : ¬ l ≤ a := h
    rw [if_neg h]; simp [h']
theorem any_not {α : Type} (l : List α) (p : α → Bool) : (!l.any fun x => !p x) = l.all p := by
  induction l with
  | nil => rfl
  | cons a l ih => rw [List.any_cons, List.all_cons, Bool.not_or, ih, Bool.not_not]
def byteB (x : Int) : Bool := decide (0 ≤ x ∧ x ≤ 255)
def bytesB (l : List Int) : Bool := l.all byteB && decide (l.length ≤ 40)
theorem notByte_eq (x : Int) : impl_AreBytes_1.f x = some (!byteB x) := by
  unfold impl_AreBytes_1.f impl_isByte.f
  rw [within_eq]
  rfl
theorem cBytes_l0 (l : List (Int)) (hl : l.length ≤ 1048576) (d : Nat) : ∀ i : Nat, i + d = l.length → ∀ k, 0 + d < k → ∃ r, slices_IndexFunc_int_int__impl_AreBytes_1.l0 k l (l.length : Int) (i : Int) = some r ∧ decide (r ≥ 0) = (l.drop i).any (fun x => !byteB x) := by
  induction d with
  | zero =>
    intro i hi k hk
    obtain ⟨k, rfl⟩ : ∃ m, k = m + 1 := ⟨k - 1, by omega⟩
    refine ⟨-1, ?_, ?_⟩
    · simp only [slices_IndexFunc_int_int__impl_AreBytes_1.l0]
      rw [if_neg (show ¬ (i : Int) < (l.length : Int) by omega)]
    · rw [drop_all l i (by omega)]; rfl
  | succ d ih =>
    intro i hi k hk
    obtain ⟨k, rfl⟩ : ∃ m, k = m + 1 := ⟨k - 1, by omega⟩
    have hlt : i < l.length := by omega
    simp only [slices_IndexFunc_int_int__impl_AreBytes_1.l0]
    rw [if_pos (show (i : Int) < (l.length : Int) by omega), if_pos (show (0 : Int) ≤ (i : Int) by omega), if_pos (show (i : Int) < (l.length : Int) by omega), rd_lt l i hlt, notByte_eq l[i]]
    simp only [Option.bind_some]
    by_cases hp : (fun x => !byteB x) l[i] = true
    · rw [if_pos hp]
      exact ⟨_, rfl, by rw [any_drop_yes l i hlt _ hp, decide_eq_true (by omega)]⟩
    · rw [if_neg hp, wrap_succ i (by omega)]
      obtain ⟨r, h1, h2⟩ := ih (i + 1) (by omega) k (by omega)
      exact ⟨r, h1, by rw [h2, any_drop_no l i hlt _ hp]⟩
theorem cBytes_ev (l : List (Int)) (hl : l.length ≤ 1048576) (k : Nat) (hk : 0 + l.length < k) : slices_ContainsFunc_int_int__impl_AreBytes_1.f k l = some (l.any (fun x => !byteB x)) := by
  obtain ⟨r, h1, h2⟩ := cBytes_l0 l hl l.length 0 (by omega) k hk
  unfold slices_ContainsFunc_int_int__impl_AreBytes_1.f slices_IndexFunc_int_int__impl_AreBytes_1.f
  have c0 : ((0 : Nat) : Int) = 0 := rfl
  rw [c0] at h1
  rw [h1]
  simp only [Option.bind_some]
  rw [h2]; rfl
theorem iAreBytes_ev (l : List Int) (k : Nat) (hk : 40 < k) : impl_AreBytes.f k l = some (bytesB l) := by
  unfold impl_AreBytes.f bytesB
  by_cases h : (l.length : Int) ≤ 40
  · rw [if_pos h, cBytes_ev l (by omega) k (by omega)]
    simp only [Option.bind_some]
    rw [any_not, decide_eq_true (show l.length ≤ 40 by omega), Bool.and_true]
  · rw [if_neg h, decide_eq_false (show ¬ l.length ≤ 40 by omega), Bool.and_false]
theorem bytesB_len {l : List Int} (h : bytesB l = true) : l.length ≤ 40 := by
  unfold bytesB at h
  simp only [Bool.and_eq_true, decide_eq_true_eq] at h
  exact h.2
def SmallE (x : List Int) : Prop := x.length ≤ 1048576
theorem rdL_lt (l : List (List Int)) (i : Nat) (h : i < l.length) : rd_L1 l (i : Int) = l[i] := by
  show l.getD i [] = l[i]
  simp [h]
def totL : List (List Int) → Nat
  | [] => 0
  | x :: l => x.length + totL l
theorem totL_le (m : Nat) (l : List (List Int)) (h : ∀ x ∈ l, x.length ≤ m) : totL l ≤ l.length * m := by
  induction l with
  | nil => simp [totL]
  | cons x l ih =>
    have h1 := h x (by simp)
    have h2 := ih (fun y hy => h y (by simp [hy]))
    simp only [totL, List.length_cons, Nat.succ_mul]
    omega
theorem equal_l0 (a b : List Int) (hl : a.length = b.length) (hb : a.length < 9223372036854775807) (d : Nat) : ∀ (i : Nat), i + d = a.length → ∀ k, d < k → slices_Equal_int_int.l0 k a b (((a.length : Nat) : Int)) (i : Int) = some (decide (a.drop i = b.drop i)) := by
  induction d with
  | zero =>
    intro i hi k hk
    obtain ⟨k, rfl⟩ : ∃ m, k = m + 1 := ⟨k - 1, by omega⟩
    simp only [slices_Equal_int_int.l0]
    rw [if_neg (show ¬ (i : Int) < (a.length : Int) by omega), drop_all a i (by omega), drop_all b i (by omega)]
    simp
  | succ d ih =>
    intro i hi k hk
    obtain ⟨k, rfl⟩ : ∃ m, k = m + 1 := ⟨k - 1, by omega⟩
    simp only [slices_Equal_int_int.l0]
    rw [if_pos (show (i : Int) < (a.length : Int) by omega), if_pos (show (0 : Int) ≤ (i : Int) by omega), if_pos (show (i : Int) < (a.length : Int) by omega), if_pos (show (i : Int) < (b.length : Int) by omega)]
    by_cases he : rd a (i : Int) = rd b (i : Int)
    · rw [if_pos he, wrap_succ i (by omega), ih (i + 1) (by omega) k (by omega)]
      congr 1
      rw [decide_eq_decide, drop_eq_iff a b i (by omega) (by omega)]
      exact ⟨fun h => ⟨he, h⟩, fun h => h.2⟩
    · rw [if_neg he]
      congr 1
      symm
      rw [decide_eq_false_iff_not, drop_eq_iff a b i (by omega) (by omega)]
      exact fun h => he h.1
theorem equal_ev (a b : List Int) (hb : a.length < 9223372036854775807) : ∀ k, a.length < k → slices_Equal_int_int.f k a b = some (decide (a = b)) := by
  intro k hk
  unfold slices_Equal_int_int.f
  by_cases hl : a.length = b.length
  · rw [if_pos (by omega)]
    exact equal_l0 a b hl hb a.length 0 (by omega) k hk
  · rw [if_neg (by omega), decide_eq_false (fun h => hl (by rw [h]))]
theorem sameInts_l0 (a b : List Int) (hl : a.length = b.length) (hb : a.length < 9223372036854775807) (d : Nat) : ∀ (i : Nat), i + d = a.length → ∀ k, d < k → laws_sameInts.l0 k a b (i : Int) = some (decide (a.drop i = b.drop i)) := by
  induction d with
  | zero =>
    intro i hi k hk
    obtain ⟨k, rfl⟩ : ∃ m, k = m + 1 := ⟨k - 1, by omega⟩
    simp only [laws_sameInts.l0]
    rw [if_neg (show ¬ (i : Int) < (a.length : Int) by omega), drop_all a i (by omega), drop_all b i (by omega)]
    simp
  | succ d ih =>
    intro i hi k hk
    obtain ⟨k, rfl⟩ : ∃ m, k = m + 1 := ⟨k - 1, by omega⟩
    simp only [laws_sameInts.l0]
    rw [if_pos (show (i : Int) < (a.length : Int) by omega), if_pos (show (0 : Int) ≤ (i : Int) by omega), if_pos (show (i : Int) < (b.length : Int) by omega)]
    by_cases he : rd a (i : Int) = rd b (i : Int)
    · rw [if_pos he, wrap_succ i (by omega), ih (i + 1) (by omega) k (by omega)]
      congr 1
      rw [decide_eq_decide, drop_eq_iff a b i (by omega) (by omega)]
      exact ⟨fun h => ⟨he, h⟩, fun h => h.2⟩
    · rw [if_neg he]
      congr 1
      symm
      rw [decide_eq_false_iff_not, drop_eq_iff a b i (by omega) (by omega)]
      exact fun h => he h.1
theorem sameInts_ev (a b : List Int) (hb : a.length < 9223372036854775807) : ∀ k, a.length < k → laws_sameInts.f k a b = some (decide (a = b)) := by
  intro k hk
  unfold laws_sameInts.f
  by_cases hl : a.length = b.length
  · rw [if_pos (by omega)]
    exact sameInts_l0 a b hl hb a.length 0 (by omega) k hk
  · rw [if_neg (by omega), decide_eq_false (fun h => hl (by rw [h]))]
/-- A cursor that has read no more than there is. -/
def CurOk (l : List Int) (i : Int) : Prop := 0 ≤ i ∧ i ≤ l.length ∧ (l.length : Int) ≤ 140737488351232
theorem byte_ok (l : List Int) (i h : Int) (hc : CurOk l i) : ∃ x i' h', spec_l01Byte.f l i h = some (x, i', h') ∧ 0 ≤ x ∧ x ≤ 255 ∧ CurOk l i' := by
  obtain ⟨h0, h1, h2⟩ := hc
  unfold spec_l01Byte.f
  by_cases hi : i < (l.length : Int)
  · rw [if_pos hi, if_pos h0]
    exact ⟨_, _, _, rfl, (and_mask _ 255 (by decide)).1, (and_mask _ 255 (by decide)).2, by rw [wrap_id _ (by omega)]; exact ⟨by omega, by omega, h2⟩⟩
  · rw [if_neg hi]
    exact ⟨_, _, _, rfl, (and_mask _ 255 (by decide)).1, (and_mask _ 255 (by decide)).2, ⟨h0, h1, h2⟩⟩
theorem below_ok (l : List Int) (i h n : Int) (hc : CurOk l i) (hn : 0 < n) : ∃ x i' h', spec_l01Below.f l i h n = some (x, i', h') ∧ 0 ≤ x ∧ x < n ∧ CurOk l i' := by
  unfold spec_l01Below.f
  rw [if_neg (by omega)]
  by_cases hb : n ≤ 256
  · rw [if_pos hb]
    obtain ⟨x, i1, h1, e, hx0, hx1, hc1⟩ := byte_ok l i h hc
    rw [e]
    simp only [Option.bind_some]
    rw [if_neg (by omega)]
    exact ⟨_, _, _, rfl, (tmod_range x n hx0 hn).1, (tmod_range x n hx0 hn).2, hc1⟩
  · rw [if_neg hb]
    obtain ⟨x, i1, h1, e1, hx0, hx1, hc1⟩ := byte_ok l i h hc
    obtain ⟨y, i2, h2, e2, hy0, hy1, hc2⟩ := byte_ok l i1 h1 hc1
    obtain ⟨z, i3, h3, e3, hz0, hz1, hc3⟩ := byte_ok l i2 h2 hc2
    obtain ⟨w, i4, h4, e4, hw0, hw1, hc4⟩ := byte_ok l i3 h3 hc3
    rw [e1]
    simp only [Option.bind_some]
    rw [e2]
    simp only [Option.bind_some]
    rw [e3]
    simp only [Option.bind_some]
    rw [e4]
    simp only [Option.bind_some]
    rw [if_neg (by omega)]
    have hv : 0 ≤ wrap64 ((wrap64 ((wrap64 ((wrap64 (x * 16777216)) + (wrap64 (y * 65536)))) + (wrap64 (z * 256)))) + w) := by
      rw [wrap_id (x * 16777216) (by omega), wrap_id (y * 65536) (by omega), wrap_id (z * 256) (by omega), wrap_id (x * 16777216 + y * 65536) (by omega), wrap_id (x * 16777216 + y * 65536 + z * 256) (by omega), wrap_id _ (by omega)]
      omega
    exact ⟨_, _, _, rfl, (tmod_range _ n hv hn).1, (tmod_range _ n hv hn).2, hc4⟩
theorem pick_ok (l : List Int) (i h : Int) (xs : List Int) (hc : CurOk l i) (hx : 0 < xs.length) : ∃ x i' h', spec_l01PickInt.f l i h xs = some (x, i', h') ∧ x ∈ xs ∧ CurOk l i' := by
  unfold spec_l01PickInt.f
  obtain ⟨q, i1, h1, e, h0, h2, hc1⟩ := below_ok l i h (xs.length : Int) hc (by omega)
  rw [e]
  simp only [Option.bind_some]
  rw [if_pos h0, if_pos h2]
  obtain ⟨m, rfl⟩ := Int.eq_ofNat_of_zero_le h0
  refine ⟨_, _, _, rfl, ?_, hc1⟩
  rw [rd_lt xs m (by omega)]
  exact List.getElem_mem _
theorem new_l0 (l : List Int) (d : Nat) : ∀ (i : Nat) (h : Int), i + d = 4000 → ∃ h', ∀ k, d < k → spec_l01New.l0 k l h (i : Int) = some (l, 0, h') := by
  induction d with
  | zero =>
    intro i h hi
    refine ⟨h, fun k hk => ?_⟩
    obtain ⟨k, rfl⟩ : ∃ m, k = m + 1 := ⟨k - 1, by omega⟩
    simp only [spec_l01New.l0]
    by_cases hlt : (i : Int) < (l.length : Int)
    · rw [if_pos hlt, if_neg (by omega)]
    · rw [if_neg hlt]
  | succ d ih =>
    intro i h hi
    by_cases hlt : (i : Int) < (l.length : Int)
    · obtain ⟨h', hh⟩ := ih (i + 1) (Go.bits .and .i64 (wrap64 ((wrap64 ((wrap64 (h * 131)) + (wrap64 (rd l i)))) + 7)) 1073741823) (by omega)
      refine ⟨h', fun k hk => ?_⟩
      obtain ⟨k, rfl⟩ : ∃ m, k = m + 1 := ⟨k - 1, by omega⟩
      simp only [spec_l01New.l0]
      rw [if_pos hlt, if_pos (show (i : Int) < 4000 by omega), if_pos (by omega), wrap_succ i (by omega)]
      exact hh k (by omega)
    · refine ⟨h, fun k hk => ?_⟩
      obtain ⟨k, rfl⟩ : ∃ m, k = m + 1 := ⟨k - 1, by omega⟩
      simp only [spec_l01New.l0]
      rw [if_neg hlt]
theorem new_ok (l : List Int) : ∃ h', ∀ k, 4000 < k → spec_l01New.f k l = some (l, 0, h') := by
  unfold spec_l01New.f
  exact new_l0 l 4000 0 _ (by omega)
theorem places_l0 (l : List Int) (d : Nat) : ∀ (n : Nat) (xs : List Int) (i h : Int), n + d = 12 → xs.length = n → (∀ x ∈ xs, 0 ≤ x ∧ x < 10000) → CurOk l i → ∃ ys, ys.length = 12 ∧ (∀ x ∈ ys, 0 ≤ x ∧ x < 10000) ∧ ∀ k, d < k → spec_DrawPlaces.l0 k xs (n : Int) l i h = some ys := by
  induction d with
  | zero =>
    intro n xs i h hn hx hr hc
    refine ⟨xs, by omega, hr, fun k hk => ?_⟩
    obtain ⟨k, rfl⟩ : ∃ m, k = m + 1 := ⟨k - 1, by omega⟩
    simp only [spec_DrawPlaces.l0]
    rw [if_neg (by omega)]
  | succ d ih =>
    intro n xs i h hn hx hr hc
    obtain ⟨x, i1, h1, e, hx0, hx1, hc1⟩ := below_ok l i h 10000 hc (by omega)
    obtain ⟨ys, hy1, hy2, hy3⟩ := ih (n + 1) (xs ++ [x]) i1 h1 (by omega) (by simp [hx]) (by
      intro z hz
      rcases List.mem_append.1 hz with hz | hz
      · exact hr z hz
      · rw [List.mem_singleton.1 hz]; exact ⟨hx0, hx1⟩) hc1
    refine ⟨ys, hy1, hy2, fun k hk => ?_⟩
    obtain ⟨k, rfl⟩ : ∃ m, k = m + 1 := ⟨k - 1, by omega⟩
    simp only [spec_DrawPlaces.l0]
    rw [if_pos (by omega), e]
    simp only [Option.bind_some]
    rw [if_pos (by omega), wrap_succ n (by omega)]
    exact hy3 k (by omega)
theorem places_ok (l : List Int) (hl : (l.length : Int) ≤ 140737488351232) : ∃ ys : List Int, ys.length = 12 ∧ (∀ x ∈ ys, 0 ≤ x ∧ x < 10000) ∧ ∀ k, 4000 < k → spec_DrawPlaces.f k l = some ys := by
  obtain ⟨h, hn⟩ := new_ok l
  obtain ⟨ys, h1, h2, h3⟩ := places_l0 l 12 0 [] 0 h (by omega) rfl (by simp) ⟨by omega, by omega, hl⟩
  refine ⟨ys, h1, h2, fun k hk => ?_⟩
  unfold spec_DrawPlaces.f
  rw [hn k hk]
  simp only [Option.bind_some]
  exact h3 k (by omega)
def wordB (x : Int) : Bool := decide (0 ≤ x ∧ x ≤ 65535)
/-- A valid packet, kind by kind: its words are words (W), and it has m of them. -/
def pkQ (K f t a n g s : Int) (W : Bool) (m : Int) : Prop := (0 ≤ f ∧ f ≤ 255) ∧ W = true ∧
  ((K = 1 ∧ 1 ≤ m ∧ m ≤ 8 ∧ 0 ≤ a ∧ a ≤ 65536 - m ∧ s = 0 ∧ t = 0 ∧ n = 0 ∧ g = 0) ∨
   (K = 2 ∧ 1 ≤ m ∧ m ≤ 8 ∧ a = 0 ∧ s = 0 ∧ t = 0 ∧ n = 0 ∧ g = 0) ∨
   (K = 3 ∧ m = 0 ∧ 1 ≤ n ∧ n ≤ 64 ∧ 0 ≤ a ∧ a ≤ 65536 - n ∧ 0 ≤ g ∧ g ≤ 7 ∧ s = 0 ∧ t = 0) ∨
   (K = 4 ∧ m = 0 ∧ 0 ≤ a ∧ a ≤ 63 ∧ 0 ≤ t ∧ t ≤ 255 ∧ 0 ≤ g ∧ g ≤ 7 ∧ s = 0 ∧ n = 0) ∨
   (K = 5 ∧ m = 1 ∧ 0 ≤ a ∧ a ≤ 63 ∧ 0 ≤ t ∧ t ≤ 255 ∧ 0 ≤ g ∧ g ≤ 7 ∧ s = 0 ∧ n = 0) ∨
   (K = 6 ∧ a = 0 ∧ 0 ≤ t ∧ t ≤ 255 ∧ 0 ≤ g ∧ g ≤ 7 ∧ 0 ≤ s ∧ s ≤ 2 ∧ 0 ≤ n ∧ n ≤ 64 ∧ (m = 0 ∨ s = 0 ∧ m ≤ 8 ∧ m ≤ n)))
instance (K f t a n g s : Int) (W : Bool) (m : Int) : Decidable (pkQ K f t a n g s W m) := by unfold pkQ; infer_instance
def pkB (K f t a n g s : Int) (l : List Int) : Bool := decide (pkQ K f t a n g s (l.all wordB) (l.length : Int))
/-- Whether the data fit to the kind, as the program asks it. -/
def dataQ (K n s : Int) (m : Int) : Prop := (K = 1 ∨ K = 2) ∧ 1 ≤ m ∧ m ≤ 8 ∨ K = 5 ∧ m = 1 ∨ K = 6 ∧ s = 0 ∧ m ≤ 8 ∧ m ≤ n ∨ (K ≠ 1 ∧ K ≠ 2 ∧ K ≠ 5 ∧ ¬ (K = 6 ∧ s = 0)) ∧ m = 0
instance (K n s m : Int) : Decidable (dataQ K n s m) := by unfold dataQ; infer_instance
theorem notWord_eq (x : Int) : impl_Packet_dataOk_1.f x = some (!wordB x) := by
  unfold impl_Packet_dataOk_1.f impl_isWord.f
  rw [within_eq]
  rfl
theorem cWords_l0 (l : List (Int)) (hl : l.length ≤ 1048576) (d : Nat) : ∀ i : Nat, i + d = l.length → ∀ k, 0 + d < k → ∃ r, slices_IndexFunc_int_int__impl_Packet__dataOk_1.l0 k l (l.length : Int) (i : Int) = some r ∧ decide (r ≥ 0) = (l.drop i).any (fun x => !wordB x) := by
  induction d with
  | zero =>
    intro i hi k hk
    obtain ⟨k, rfl⟩ : ∃ m, k = m + 1 := ⟨k - 1, by omega⟩
    refine ⟨-1, ?_, ?_⟩
    · simp only [slices_IndexFunc_int_int__impl_Packet__dataOk_1.l0]
      rw [if_neg (show ¬ (i : Int) < (l.length : Int) by omega)]
    · rw [drop_all l i (by omega)]; rfl
  | succ d ih =>
    intro i hi k hk
    obtain ⟨k, rfl⟩ : ∃ m, k = m + 1 := ⟨k - 1, by omega⟩
    have hlt : i < l.length := by omega
    simp only [slices_IndexFunc_int_int__impl_Packet__dataOk_1.l0]
    rw [if_pos (show (i : Int) < (l.length : Int) by omega), if_pos (show (0 : Int) ≤ (i : Int) by omega), if_pos (show (i : Int) < (l.length : Int) by omega), rd_lt l i hlt, notWord_eq l[i]]
    simp only [Option.bind_some]
    by_cases hp : (fun x => !wordB x) l[i] = true
    · rw [if_pos hp]
      exact ⟨_, rfl, by rw [any_drop_yes l i hlt _ hp, decide_eq_true (by omega)]⟩
    · rw [if_neg hp, wrap_succ i (by omega)]
      obtain ⟨r, h1, h2⟩ := ih (i + 1) (by omega) k (by omega)
      exact ⟨r, h1, by rw [h2, any_drop_no l i hlt _ hp]⟩
theorem cWords_ev (l : List (Int)) (hl : l.length ≤ 1048576) (k : Nat) (hk : 0 + l.length < k) : slices_ContainsFunc_int_int__impl_Packet__dataOk_1.f k l = some (l.any (fun x => !wordB x)) := by
  obtain ⟨r, h1, h2⟩ := cWords_l0 l hl l.length 0 (by omega) k hk
  unfold slices_ContainsFunc_int_int__impl_Packet__dataOk_1.f slices_IndexFunc_int_int__impl_Packet__dataOk_1.f
  have c0 : ((0 : Nat) : Int) = 0 := rfl
  rw [c0] at h1
  rw [h1]
  simp only [Option.bind_some]
  rw [h2]; rfl
theorem iDataOk_ev (K f t a n g s : Int) (l : List Int) (hl : l.length ≤ 1048576) (k : Nat) (hk : 1048580 < k) : impl_Packet_dataOk.f k K f t a n g s l = some (l.all wordB && decide (dataQ K n s (l.length : Int))) := by
  obtain ⟨k, rfl⟩ : ∃ m, k = m + 1 := ⟨k - 1, by omega⟩
  unfold impl_Packet_dataOk.f
  rw [cWords_ev l hl _ (by omega)]
  simp only [Option.bind_some, impl_Packet_dataOk.j0, within_eq, if_true]
  rw [← any_not l wordB]
  generalize (l.any fun x => !wordB x) = W
  generalize (l.length : Int) = m
  cases W
  all_goals simp only [Bool.false_eq_true, if_false, if_true, Bool.not_false, Bool.not_true, Bool.true_and, Bool.false_and, beq_iff_eq]
  all_goals repeat' split
  all_goals first | rfl | (congr 1; rw [Bool.eq_iff_iff]; simp only [beq_iff_eq, decide_eq_true_eq, Bool.false_eq_true, false_iff, true_iff]; unfold dataQ; omega)
set_option maxHeartbeats 2000000 in
theorem iIsPacket_ev (K f t a n g s : Int) (l : List Int) (hl : l.length ≤ 1048576) (k : Nat) (hk : 1048590 < k) : impl_IsPacket.f k K f t a n g s l = some (pkB K f t a n g s l) := by
  obtain ⟨k, rfl⟩ : ∃ m, k = m + 3 := ⟨k - 3, by omega⟩
  unfold impl_IsPacket.f impl_IsId.f impl_Packet_addressOk.f impl_Packet_lengthOk.f pkB
  simp only [Option.bind_some, within_eq, impl_IsPacket.j0, impl_IsPacket.j1, impl_IsPacket.j2, impl_Packet_addressOk.j0, impl_Packet_words.f, impl_IsId.f, iDataOk_ev K f t a n g s l hl _ (show 1048580 < k by omega), decide_eq_true_eq, Bool.not_eq_true', Bool.false_eq_true, if_false, if_true]
  have hm : (0 : Int) ≤ (l.length : Int) ∧ (l.length : Int) ≤ 1048576 := by omega
  generalize (l.length : Int) = m at hm ⊢
  generalize l.all wordB = W
  by_cases hf : 0 ≤ f ∧ f ≤ 255
  case neg =>
    simp only [hf, if_false, if_true, Bool.true_eq_false]
    have e : decide (pkQ K f t a n g s W m) = false := by rw [decide_eq_false_iff_not]; unfold pkQ; exact fun h => hf h.1
    rw [e]
    repeat' split
    all_goals rfl
  by_cases k1 : K = 1
  · subst k1
    simp only [Int.reduceEq, Int.reduceLE, Int.reduceBEq, hf, if_true, if_false, Option.bind_some, and_true, true_and, and_false, false_and, Bool.true_eq_false, Bool.false_eq_true]
    cases W
    all_goals repeat' (first | (simp only [Option.bind_some, decide_eq_true_eq, Bool.false_eq_true, if_false, if_true, Bool.false_and, Bool.true_and]) | split)
    all_goals ((try simp only [Option.bind_some]); congr 1; rw [Bool.eq_iff_iff]; (try simp only [beq_iff_eq, decide_eq_true_eq, Bool.and_eq_true, Bool.false_eq_true]); unfold pkQ; (try unfold dataQ); (try simp only [eq_self, Bool.false_eq_true, true_and, false_and, and_false, false_iff, true_iff, iff_false, iff_true, not_false_eq_true, not_true_eq_false]); first | done | omega | ((try simp only [le_mn]); omega) | ((try simp only [wrap64, beq_eq_false_iff_ne, bne_iff_ne, beq_iff_eq, ne_eq, decide_eq_false_iff_not, Decidable.not_not, true_or, or_true, true_and, not_true_eq_false, not_false_eq_true, false_and, and_false, and_true, or_false, false_or, iff_false, iff_true, false_iff, true_iff, Int.reduceEq] at *); (try simp only [le_mn]); first | done | omega))
  by_cases k2 : K = 2
  · subst k2
    simp only [Int.reduceEq, Int.reduceLE, Int.reduceBEq, hf, if_true, if_false, Option.bind_some, and_true, true_and, and_false, false_and, Bool.true_eq_false, Bool.false_eq_true]
    cases W
    all_goals repeat' (first | (simp only [Option.bind_some, decide_eq_true_eq, Bool.false_eq_true, if_false, if_true, Bool.false_and, Bool.true_and]) | split)
    all_goals ((try simp only [Option.bind_some]); congr 1; rw [Bool.eq_iff_iff]; (try simp only [beq_iff_eq, decide_eq_true_eq, Bool.and_eq_true, Bool.false_eq_true]); unfold pkQ; (try unfold dataQ); (try simp only [eq_self, Bool.false_eq_true, true_and, false_and, and_false, false_iff, true_iff, iff_false, iff_true, not_false_eq_true, not_true_eq_false]); first | done | omega | ((try simp only [le_mn]); omega) | ((try simp only [wrap64, beq_eq_false_iff_ne, bne_iff_ne, beq_iff_eq, ne_eq, decide_eq_false_iff_not, Decidable.not_not, true_or, or_true, true_and, not_true_eq_false, not_false_eq_true, false_and, and_false, and_true, or_false, false_or, iff_false, iff_true, false_iff, true_iff, Int.reduceEq] at *); (try simp only [le_mn]); first | done | omega))
  by_cases k3 : K = 3
  · subst k3
    simp only [Int.reduceEq, Int.reduceLE, Int.reduceBEq, hf, if_true, if_false, Option.bind_some, and_true, true_and, and_false, false_and, Bool.true_eq_false, Bool.false_eq_true]
    cases W
    all_goals repeat' (first | (simp only [Option.bind_some, decide_eq_true_eq, Bool.false_eq_true, if_false, if_true, Bool.false_and, Bool.true_and]) | split)
    all_goals ((try simp only [Option.bind_some]); congr 1; rw [Bool.eq_iff_iff]; (try simp only [beq_iff_eq, decide_eq_true_eq, Bool.and_eq_true, Bool.false_eq_true]); unfold pkQ; (try unfold dataQ); (try simp only [eq_self, Bool.false_eq_true, true_and, false_and, and_false, false_iff, true_iff, iff_false, iff_true, not_false_eq_true, not_true_eq_false]); first | done | omega | ((try simp only [le_mn]); omega) | ((try simp only [wrap64, beq_eq_false_iff_ne, bne_iff_ne, beq_iff_eq, ne_eq, decide_eq_false_iff_not, Decidable.not_not, true_or, or_true, true_and, not_true_eq_false, not_false_eq_true, false_and, and_false, and_true, or_false, false_or, iff_false, iff_true, false_iff, true_iff, Int.reduceEq] at *); (try simp only [le_mn]); first | done | omega))
  by_cases k4 : K = 4
  · subst k4
    simp only [Int.reduceEq, Int.reduceLE, Int.reduceBEq, hf, if_true, if_false, Option.bind_some, and_true, true_and, and_false, false_and, Bool.true_eq_false, Bool.false_eq_true]
    cases W
    all_goals repeat' (first | (simp only [Option.bind_some, decide_eq_true_eq, Bool.false_eq_true, if_false, if_true, Bool.false_and, Bool.true_and]) | split)
    all_goals ((try simp only [Option.bind_some]); congr 1; rw [Bool.eq_iff_iff]; (try simp only [beq_iff_eq, decide_eq_true_eq, Bool.and_eq_true, Bool.false_eq_true]); unfold pkQ; (try unfold dataQ); (try simp only [eq_self, Bool.false_eq_true, true_and, false_and, and_false, false_iff, true_iff, iff_false, iff_true, not_false_eq_true, not_true_eq_false]); first | done | omega | ((try simp only [le_mn]); omega) | ((try simp only [wrap64, beq_eq_false_iff_ne, bne_iff_ne, beq_iff_eq, ne_eq, decide_eq_false_iff_not, Decidable.not_not, true_or, or_true, true_and, not_true_eq_false, not_false_eq_true, false_and, and_false, and_true, or_false, false_or, iff_false, iff_true, false_iff, true_iff, Int.reduceEq] at *); (try simp only [le_mn]); first | done | omega))
  by_cases k5 : K = 5
  · subst k5
    simp only [Int.reduceEq, Int.reduceLE, Int.reduceBEq, hf, if_true, if_false, Option.bind_some, and_true, true_and, and_false, false_and, Bool.true_eq_false, Bool.false_eq_true]
    cases W
    all_goals repeat' (first | (simp only [Option.bind_some, decide_eq_true_eq, Bool.false_eq_true, if_false, if_true, Bool.false_and, Bool.true_and]) | split)
    all_goals ((try simp only [Option.bind_some]); congr 1; rw [Bool.eq_iff_iff]; (try simp only [beq_iff_eq, decide_eq_true_eq, Bool.and_eq_true, Bool.false_eq_true]); unfold pkQ; (try unfold dataQ); (try simp only [eq_self, Bool.false_eq_true, true_and, false_and, and_false, false_iff, true_iff, iff_false, iff_true, not_false_eq_true, not_true_eq_false]); first | done | omega | ((try simp only [le_mn]); omega) | ((try simp only [wrap64, beq_eq_false_iff_ne, bne_iff_ne, beq_iff_eq, ne_eq, decide_eq_false_iff_not, Decidable.not_not, true_or, or_true, true_and, not_true_eq_false, not_false_eq_true, false_and, and_false, and_true, or_false, false_or, iff_false, iff_true, false_iff, true_iff, Int.reduceEq] at *); (try simp only [le_mn]); first | done | omega))
  by_cases k6 : K = 6
  · subst k6
    simp only [Int.reduceEq, Int.reduceLE, Int.reduceBEq, hf, if_true, if_false, Option.bind_some, and_true, true_and, and_false, false_and, Bool.true_eq_false, Bool.false_eq_true]
    cases W
    all_goals repeat' (first | (simp only [Option.bind_some, decide_eq_true_eq, Bool.false_eq_true, if_false, if_true, Bool.false_and, Bool.true_and]) | split)
    all_goals ((try simp only [Option.bind_some]); congr 1; rw [Bool.eq_iff_iff]; (try simp only [beq_iff_eq, decide_eq_true_eq, Bool.and_eq_true, Bool.false_eq_true]); unfold pkQ; (try unfold dataQ); (try simp only [eq_self, Bool.false_eq_true, true_and, false_and, and_false, false_iff, true_iff, iff_false, iff_true, not_false_eq_true, not_true_eq_false]); first | done | omega | ((try simp only [le_mn]); omega) | ((try simp only [wrap64, beq_eq_false_iff_ne, bne_iff_ne, beq_iff_eq, ne_eq, decide_eq_false_iff_not, Decidable.not_not, true_or, or_true, true_and, not_true_eq_false, not_false_eq_true, false_and, and_false, and_true, or_false, false_or, iff_false, iff_true, false_iff, true_iff, Int.reduceEq] at *); (try simp only [le_mn]); first | done | omega))
  simp only [show ¬ (1 ≤ K ∧ K ≤ 6) by omega, if_false, if_true]
  ((try simp only [Option.bind_some]); congr 1; rw [Bool.eq_iff_iff]; (try simp only [beq_iff_eq, decide_eq_true_eq, Bool.and_eq_true, Bool.false_eq_true]); unfold pkQ; (try unfold dataQ); (try simp only [eq_self, Bool.false_eq_true, true_and, false_and, and_false, false_iff, true_iff, iff_false, iff_true, not_false_eq_true, not_true_eq_false]); first | done | omega | ((try simp only [le_mn]); omega) | ((try simp only [wrap64, beq_eq_false_iff_ne, bne_iff_ne, beq_iff_eq, ne_eq, decide_eq_false_iff_not, Decidable.not_not, true_or, or_true, true_and, not_true_eq_false, not_false_eq_true, false_and, and_false, and_true, or_false, false_or, iff_false, iff_true, false_iff, true_iff, Int.reduceEq] at *); (try simp only [le_mn]); first | done | omega))
theorem data_l0 (l : List Int) (m : Nat) (hm : m ≤ 100) (d : Nat) : ∀ (n : Nat) (xs : List Int) (i h : Int), n + d = m → xs.length = n → xs.all wordB = true → CurOk l i → ∃ ys i' h', ys.length = m ∧ ys.all wordB = true ∧ CurOk l i' ∧ ∀ k, d < k → spec_l04Data.l0 k (m : Int) xs (n : Int) l i h = some (ys, i', h') := by
  induction d with
  | zero =>
    intro n xs i h hn hx hr hc
    refine ⟨xs, i, h, by omega, hr, hc, fun k hk => ?_⟩
    obtain ⟨k, rfl⟩ : ∃ m, k = m + 1 := ⟨k - 1, by omega⟩
    simp only [spec_l04Data.l0]
    rw [if_neg (by omega)]
  | succ d ih =>
    intro n xs i h hn hx hr hc
    obtain ⟨x, i1, h1, e1, hx0, hx1, hc1⟩ := below_ok l i h 256 hc (by omega)
    obtain ⟨y, i2, h2, e2, hy0, hy1, hc2⟩ := below_ok l i1 h1 65536 hc1 (by omega)
    obtain ⟨z, i3, h3, e3, hz, hc3⟩ := pick_ok l i2 h2 [0, 1, 65535, x, y] hc2 (by simp)
    have hz' : 0 ≤ z ∧ z ≤ 65535 := by
      simp only [List.mem_cons, List.not_mem_nil, or_false] at hz
      omega
    obtain ⟨ys, i', h', hy1', hy2', hy3', hy4'⟩ := ih (n + 1) (xs ++ [z]) i3 h3 (by omega) (by simp [hx]) (by
      rw [List.all_append, hr, List.all_cons, List.all_nil]
      simp [wordB, hz'.1, hz'.2]) hc3
    refine ⟨ys, i', h', hy1', hy2', hy3', fun k hk => ?_⟩
    obtain ⟨k, rfl⟩ : ∃ m, k = m + 1 := ⟨k - 1, by omega⟩
    simp only [spec_l04Data.l0]
    rw [if_pos (by omega), e1]
    simp only [Option.bind_some]
    rw [e2]
    simp only [Option.bind_some]
    rw [e3]
    simp only [Option.bind_some]
    rw [if_pos (by omega), wrap_succ n (by omega)]
    exact hy4' k (by omega)
theorem data_ok (l : List Int) (i h m : Int) (hm : 0 ≤ m ∧ m ≤ 100) (hc : CurOk l i) : ∃ ys i' h', (ys.length : Int) = m ∧ ys.all wordB = true ∧ CurOk l i' ∧ ∀ k, 100 < k → spec_l04Data.f k l i h m = some (ys, i', h') := by
  obtain ⟨n, rfl⟩ := Int.eq_ofNat_of_zero_le hm.1
  obtain ⟨ys, i', h', h1, h2, h3, h4⟩ := data_l0 l n (by omega) n 0 [] i h (by omega) rfl rfl hc
  refine ⟨ys, i', h', by omega, h2, h3, fun k hk => ?_⟩
  unfold spec_l04Data.f
  exact h4 k (by omega)
theorem pk_data {K f t a n g s m : Int} {xs : List Int} (hm : (xs.length : Int) = m) (hv : xs.all wordB = true) (h : pkQ K f t a n g s true m) : pkB K f t a n g s xs = true := by
  unfold pkB
  rw [hv, hm]
  exact decide_eq_true h
theorem pk1 {f a m : Int} (hf : 0 ≤ f ∧ f ≤ 255) (hm : 1 ≤ m ∧ m ≤ 8) (ha : 0 ≤ a ∧ a ≤ 65536 - m) : pkQ 1 f 0 a 0 0 0 true m := ⟨hf, rfl, .inl ⟨rfl, hm.1, hm.2, ha.1, ha.2, rfl, rfl, rfl, rfl⟩⟩
theorem pk2 {f m : Int} (hf : 0 ≤ f ∧ f ≤ 255) (hm : 1 ≤ m ∧ m ≤ 8) : pkQ 2 f 0 0 0 0 0 true m := ⟨hf, rfl, .inr (.inl ⟨rfl, hm.1, hm.2, rfl, rfl, rfl, rfl, rfl⟩)⟩
theorem pk3 {f a n g : Int} (hf : 0 ≤ f ∧ f ≤ 255) (hn : 1 ≤ n ∧ n ≤ 64) (ha : 0 ≤ a ∧ a ≤ 65536 - n) (hg : 0 ≤ g ∧ g ≤ 7) : pkQ 3 f 0 a n g 0 true 0 := ⟨hf, rfl, .inr (.inr (.inl ⟨rfl, rfl, hn.1, hn.2, ha.1, ha.2, hg.1, hg.2, rfl, rfl⟩))⟩
theorem pk4 {f t a g : Int} (hf : 0 ≤ f ∧ f ≤ 255) (ha : 0 ≤ a ∧ a ≤ 63) (ht : 0 ≤ t ∧ t ≤ 255) (hg : 0 ≤ g ∧ g ≤ 7) : pkQ 4 f t a 0 g 0 true 0 := ⟨hf, rfl, .inr (.inr (.inr (.inl ⟨rfl, rfl, ha.1, ha.2, ht.1, ht.2, hg.1, hg.2, rfl, rfl⟩)))⟩
theorem pk5 {f t a g : Int} (hf : 0 ≤ f ∧ f ≤ 255) (ha : 0 ≤ a ∧ a ≤ 63) (ht : 0 ≤ t ∧ t ≤ 255) (hg : 0 ≤ g ∧ g ≤ 7) : pkQ 5 f t a 0 g 0 true 1 := ⟨hf, rfl, .inr (.inr (.inr (.inr (.inl ⟨rfl, rfl, ha.1, ha.2, ht.1, ht.2, hg.1, hg.2, rfl, rfl⟩))))⟩
theorem pk6 {f t n g s m : Int} (hf : 0 ≤ f ∧ f ≤ 255) (ht : 0 ≤ t ∧ t ≤ 255) (hg : 0 ≤ g ∧ g ≤ 7) (hs : 0 ≤ s ∧ s ≤ 2) (hn : 0 ≤ n ∧ n ≤ 64) (hm : m = 0 ∨ s = 0 ∧ m ≤ 8 ∧ m ≤ n) : pkQ 6 f t 0 n g s true m := ⟨hf, rfl, .inr (.inr (.inr (.inr (.inr ⟨rfl, rfl, ht.1, ht.2, hg.1, hg.2, hs.1, hs.2, hn.1, hn.2, hm⟩))))⟩
theorem pk_nil {K f t a n g s : Int} (h : pkQ K f t a n g s true 0) : pkB K f t a n g s [] = true := pk_data rfl rfl h
set_option maxHeartbeats 2000000 in
/-- A drawn packet is a valid one. -/
theorem packet_ok (l : List Int) (i h : Int) (hc : CurOk l i) : ∃ K f t a n g s xs i' h', pkB K f t a n g s xs = true ∧ CurOk l i' ∧ ∀ k, 200 < k → spec_l04Packet.f k l i h = some (K, f, t, a, n, g, s, xs, i', h') := by
  obtain ⟨x, i1, h1, e1, hx0, hx1, hc1⟩ := below_ok l i h 6 hc (by omega)
  obtain ⟨f, i2, h2, e2, hf0, hf1, hc2⟩ := below_ok l i1 h1 256 hc1 (by omega)
  have hx : x = 0 ∨ x = 1 ∨ x = 2 ∨ x = 3 ∨ x = 4 ∨ x = 5 := by omega
  rcases hx with rfl | rfl | rfl | rfl | rfl | rfl
  · have hw : wrap64 1 = 1 := wrap_id _ (by omega)
    obtain ⟨q, i3, h3, e3, hq0, hq1, hc3⟩ := below_ok l i2 h2 8 hc2 (by omega)
    have hq : wrap64 (1 + q) = 1 + q := wrap_id _ (by omega)
    obtain ⟨ys, i4, h4, hl, hv, hc4, e4⟩ := data_ok l i3 h3 (1 + q) (by omega) hc3
    obtain ⟨y, i5, h5, e5, hy0, hy1, hc5⟩ := below_ok l i4 h4 60000 hc4 (by omega)
    obtain ⟨a, i6, h6, e6, ha, hc6⟩ := pick_ok l i5 h5 [0, 100, 4096, 65528, y] hc5 (by simp)
    simp only [List.mem_cons, List.not_mem_nil, or_false] at ha
    refine ⟨1, f, 0, a, 0, 0, 0, ys, i6, h6, ?_, hc6, fun k hk => ?_⟩
    · exact pk_data hl hv (pk1 ⟨hf0, by omega⟩ (by omega) (by omega))
    · obtain ⟨k, rfl⟩ : ∃ m, k = m + 2 := ⟨k - 2, by omega⟩
      unfold spec_l04Packet.f
      simp only [hw, hq, Option.bind_some, spec_l04Packet.j0, spec_l04Packet.j1, Int.reduceEq, Int.reduceBEq, Int.reduceAdd, if_true, if_false, Bool.false_eq_true, e1, e2, e3, e4 (k + 1) (by omega), e5, e6]
  · have hw : wrap64 2 = 2 := wrap_id _ (by omega)
    obtain ⟨q, i3, h3, e3, hq0, hq1, hc3⟩ := below_ok l i2 h2 8 hc2 (by omega)
    have hq : wrap64 (1 + q) = 1 + q := wrap_id _ (by omega)
    obtain ⟨ys, i4, h4, hl, hv, hc4, e4⟩ := data_ok l i3 h3 (1 + q) (by omega) hc3
    refine ⟨2, f, 0, 0, 0, 0, 0, ys, i4, h4, ?_, hc4, fun k hk => ?_⟩
    · exact pk_data hl hv (pk2 ⟨hf0, by omega⟩ (by omega))
    · obtain ⟨k, rfl⟩ : ∃ m, k = m + 2 := ⟨k - 2, by omega⟩
      unfold spec_l04Packet.f
      simp only [hw, hq, Option.bind_some, spec_l04Packet.j0, spec_l04Packet.j1, Int.reduceEq, Int.reduceBEq, Int.reduceAdd, if_true, if_false, Bool.false_eq_true, e1, e2, e3, e4 (k + 1) (by omega)]
  · have hw : wrap64 3 = 3 := wrap_id _ (by omega)
    obtain ⟨n, i3, h3, e3, hn, hc3⟩ := pick_ok l i2 h2 [1, 4, 8, 20, 64] hc2 (by simp)
    obtain ⟨y, i5, h5, e5, hy0, hy1, hc5⟩ := below_ok l i3 h3 60000 hc3 (by omega)
    obtain ⟨a, i6, h6, e6, ha, hc6⟩ := pick_ok l i5 h5 [0, 100, 4096, 65472, y] hc5 (by simp)
    obtain ⟨g, i7, h7, e7, hg0, hg1, hc7⟩ := below_ok l i6 h6 8 hc6 (by omega)
    simp only [List.mem_cons, List.not_mem_nil, or_false] at ha hn
    refine ⟨3, f, 0, a, n, g, 0, [], i7, h7, ?_, hc7, fun k hk => ?_⟩
    · exact pk_nil (pk3 ⟨hf0, by omega⟩ (by omega) (by omega) (by omega))
    · obtain ⟨k, rfl⟩ : ∃ m, k = m + 2 := ⟨k - 2, by omega⟩
      unfold spec_l04Packet.f
      simp only [hw, Option.bind_some, spec_l04Packet.j0, spec_l04Packet.j1, Int.reduceEq, Int.reduceBEq, Int.reduceAdd, if_true, if_false, Bool.false_eq_true, e1, e2, e3, e5, e6, e7]
  · have hw : wrap64 4 = 4 := wrap_id _ (by omega)
    obtain ⟨t, i3, h3, e3, ht0, ht1, hc3⟩ := below_ok l i2 h2 256 hc2 (by omega)
    obtain ⟨a, i4, h4, e4, ha0, ha1, hc4⟩ := below_ok l i3 h3 64 hc3 (by omega)
    obtain ⟨g, i5, h5, e5, hg0, hg1, hc5⟩ := below_ok l i4 h4 8 hc4 (by omega)
    refine ⟨4, f, t, a, 0, g, 0, [], i5, h5, ?_, hc5, fun k hk => ?_⟩
    · exact pk_nil (pk4 ⟨hf0, by omega⟩ (by omega) (by omega) (by omega))
    · obtain ⟨k, rfl⟩ : ∃ m, k = m + 2 := ⟨k - 2, by omega⟩
      unfold spec_l04Packet.f
      simp only [hw, Option.bind_some, spec_l04Packet.j0, spec_l04Packet.j1, Int.reduceEq, Int.reduceBEq, Int.reduceAdd, if_true, if_false, Bool.false_eq_true, e1, e2, e3, e4, e5]
  · have hw : wrap64 5 = 5 := wrap_id _ (by omega)
    obtain ⟨t, i3, h3, e3, ht0, ht1, hc3⟩ := below_ok l i2 h2 256 hc2 (by omega)
    obtain ⟨a, i4, h4, e4, ha0, ha1, hc4⟩ := below_ok l i3 h3 64 hc3 (by omega)
    obtain ⟨g, i5, h5, e5, hg0, hg1, hc5⟩ := below_ok l i4 h4 8 hc4 (by omega)
    obtain ⟨ys, i6, h6, hl, hv, hc6, e6⟩ := data_ok l i5 h5 1 (by omega) hc5
    refine ⟨5, f, t, a, 0, g, 0, ys, i6, h6, ?_, hc6, fun k hk => ?_⟩
    · exact pk_data hl hv (pk5 ⟨hf0, by omega⟩ (by omega) (by omega) (by omega))
    · obtain ⟨k, rfl⟩ : ∃ m, k = m + 2 := ⟨k - 2, by omega⟩
      unfold spec_l04Packet.f
      simp only [hw, Option.bind_some, spec_l04Packet.j0, spec_l04Packet.j1, Int.reduceEq, Int.reduceBEq, Int.reduceAdd, if_true, if_false, Bool.false_eq_true, e1, e2, e3, e4, e5, e6 k (by omega)]
  · have hw : wrap64 6 = 6 := wrap_id _ (by omega)
    obtain ⟨t, i3, h3, e3, ht0, ht1, hc3⟩ := below_ok l i2 h2 256 hc2 (by omega)
    obtain ⟨g, i4, h4, e4, hg0, hg1, hc4⟩ := below_ok l i3 h3 8 hc3 (by omega)
    obtain ⟨s, i5, h5, e5, hs, hc5⟩ := pick_ok l i4 h4 [0, 0, 0, 1, 2] hc4 (by simp)
    obtain ⟨n, i6, h6, e6, hn, hc6⟩ := pick_ok l i5 h5 [8, 0, 20, 64] hc5 (by simp)
    simp only [List.mem_cons, List.not_mem_nil, or_false] at hs hn
    by_cases hs0 : s = 0
    · obtain ⟨b, i7, h7, e7, hb0, hb1, hc7⟩ := below_ok l i6 h6 9 hc6 (by omega)
      have hmn : 0 ≤ mn n b ∧ mn n b ≤ 8 ∧ mn n b ≤ n := by unfold mn; split <;> omega
      obtain ⟨ys, i8, h8, hl, hv, hc8, e8⟩ := data_ok l i7 h7 (mn n b) (by omega) hc7
      refine ⟨6, f, t, 0, n, g, s, ys, i8, h8, ?_, hc8, fun k hk => ?_⟩
      · exact pk_data hl hv (pk6 ⟨hf0, by omega⟩ (by omega) (by omega) (by omega) (by omega) (by omega))
      · obtain ⟨k, rfl⟩ : ∃ m, k = m + 2 := ⟨k - 2, by omega⟩
        unfold spec_l04Packet.f
        simp only [hw, Option.bind_some, spec_l04Packet.j0, spec_l04Packet.j1, Int.reduceEq, Int.reduceBEq, Int.reduceAdd, if_true, if_false, Bool.false_eq_true, e1, e2, e3, e4, e5, e6, hs0, e7, e8 k (by omega)]
    · refine ⟨6, f, t, 0, n, g, s, [], i6, h6, ?_, hc6, fun k hk => ?_⟩
      · exact pk_nil (pk6 ⟨hf0, by omega⟩ (by omega) (by omega) (by omega) (by omega) (by omega))
      · obtain ⟨k, rfl⟩ : ∃ m, k = m + 2 := ⟨k - 2, by omega⟩
        unfold spec_l04Packet.f
        simp only [hw, Option.bind_some, spec_l04Packet.j0, spec_l04Packet.j1, Int.reduceEq, Int.reduceBEq, Int.reduceAdd, if_true, if_false, Bool.false_eq_true, e1, e2, e3, e4, e5, e6, hs0]
theorem pkB_len {K f t a n g s : Int} {l : List Int} (h : pkB K f t a n g s l = true) : l.length ≤ 8 := by
  unfold pkB at h
  have h := of_decide_eq_true h
  unfold pkQ at h
  have h := h.2.2
  omega
theorem drawPacket_ok (l : List Int) (hl : (l.length : Int) ≤ 140737488351232) : ∃ K f t a n g s xs, pkB K f t a n g s xs = true ∧ ∀ k, 4000 < k → spec_DrawPacket.f k l = some (K, f, t, a, n, g, s, xs) := by
  obtain ⟨h, e0⟩ := new_ok l
  obtain ⟨K, f, t, a, n, g, s, xs, i', h', hp, _, e1⟩ := packet_ok l 0 h ⟨by omega, by omega, hl⟩
  refine ⟨K, f, t, a, n, g, s, xs, hp, fun k hk => ?_⟩
  unfold spec_DrawPacket.f
  rw [e0 k hk]
  simp only [Option.bind_some]
  rw [e1 k (by omega)]
  rfl
theorem tdiv_range (x : Int) (h : 0 ≤ x ∧ x ≤ 65535) : 0 ≤ Int.tdiv x 256 ∧ Int.tdiv x 256 ≤ 255 := by
  rw [Int.tdiv_eq_ediv_of_nonneg h.1]
  omega
/-- The bytes of a valid packet are bytes. -/
theorem enc_l0 (l : List Int) (hl : l.length ≤ 8) (hw : l.all wordB = true) (d : Nat) : ∀ (i : Nat) (xs : List Int), i + d = l.length → xs.length = 8 + 2 * i → xs.all byteB = true → ∃ ys : List Int, ys.length = 8 + 2 * l.length ∧ ys.all byteB = true ∧ ∀ k, d < k → impl_EncodePacket.l0 k xs l (l.length : Int) (i : Int) = some ys := by
  induction d with
  | zero =>
    intro i xs hi hx hb
    refine ⟨xs, by omega, hb, fun k hk => ?_⟩
    obtain ⟨k, rfl⟩ : ∃ m, k = m + 1 := ⟨k - 1, by omega⟩
    simp only [impl_EncodePacket.l0]
    rw [if_neg (by omega)]
  | succ d ih =>
    intro i xs hi hx hb
    have hlt : i < l.length := by omega
    have h1 : wordB l[i] = true := List.all_eq_true.mp hw _ (List.getElem_mem hlt)
    have h2 : 0 ≤ l[i] ∧ l[i] ≤ 65535 := of_decide_eq_true h1
    have h3 := (tdiv_range l[i] h2)
    have h4 := tmod_range l[i] 256 h2.1 (by omega)
    have hw1 : wrap64 (Int.tdiv l[i] 256) = Int.tdiv l[i] 256 := wrap_id _ (by omega)
    obtain ⟨ys, g1, g2, g3⟩ := ih (i + 1) (xs ++ [Int.tdiv l[i] 256, Int.tmod l[i] 256]) (by omega) (by simp [hx]; omega) (by
      rw [List.all_append, hb, List.all_cons, List.all_cons, List.all_nil]
      simp only [byteB, Bool.and_true, Bool.true_and, Bool.and_eq_true, decide_eq_true_eq]
      omega)
    refine ⟨ys, g1, g2, fun k hk => ?_⟩
    obtain ⟨k, rfl⟩ : ∃ m, k = m + 1 := ⟨k - 1, by omega⟩
    simp only [impl_EncodePacket.l0]
    rw [if_pos (by omega), if_pos (by omega), if_pos (by omega), rd_lt l i hlt, hw1]
    simp only [Option.bind_some]
    rw [if_pos (by simp [hx]; omega), wrap_succ i (by omega)]
    exact g3 k (by omega)
theorem enc_ok {K f t a n g s : Int} {l : List Int} (h : pkB K f t a n g s l = true) : ∃ ys : List Int, ys.length = 8 + 2 * l.length ∧ ys.all byteB = true ∧ ∀ k, 1048600 < k → impl_EncodePacket.f k K f t a n g s l = some ys := by
  have hl := pkB_len h
  have hq : pkQ K f t a n g s (l.all wordB) (l.length : Int) := of_decide_eq_true h
  unfold pkQ at hq
  obtain ⟨hf, hw, hq⟩ := hq
  have ha : 0 ≤ a ∧ a ≤ 65535 := by omega
  have hg : 0 ≤ g ∧ g ≤ 7 := by omega
  have hs : 0 ≤ s ∧ s ≤ 2 := by omega
  have h3 := tdiv_range a ha
  have h4 := tmod_range a 256 ha.1 (by omega)
  have hw1 : wrap64 (Int.tdiv a 256) = Int.tdiv a 256 := wrap_id _ (by omega)
  have hw2 : wrap64 (wrap64 (g * 16) + s) = g * 16 + s := by rw [wrap_id (g * 16) (by omega), wrap_id _ (by omega)]
  obtain ⟨ys, g1, g2, g3⟩ := enc_l0 l hl hw l.length 0 [K, f, t, Int.tdiv a 256, Int.tmod a 256, n, g * 16 + s, (l.length : Int)] (by omega) rfl (by
    simp only [List.all_cons, List.all_nil, byteB, Bool.and_true, Bool.and_eq_true, decide_eq_true_eq]
    omega)
  refine ⟨ys, g1, g2, fun k hk => ?_⟩
  unfold impl_EncodePacket.f
  rw [iIsPacket_ev K f t a n g s l (by omega) k (by omega), h, hw1, hw2]
  simp only [Option.bind_some, if_true]
  exact g3 k (by omega)
/-- What falls to lane i. -/
def colw (w i : Nat) (l : List Int) : List Int := (l.zipIdx.filter (fun p => p.2 % w == i)).map (·.1)
def stripeL (l : List Int) (w : Nat) : List (List Int) := (List.range w).map fun i => 256 :: colw w i l
theorem colw_snoc (w i : Nat) (l : List Int) (x : Int) : colw w i (l ++ [x]) = colw w i l ++ (if l.length % w = i then [x] else []) := by
  unfold colw
  rw [List.zipIdx_append, List.filter_append, List.map_append]
  congr 1
  by_cases h : l.length % w = i <;> simp [h]
theorem colw_take (w i : Nat) (l : List Int) (j : Nat) (h : j < l.length) : colw w i (l.take (j + 1)) = colw w i (l.take j) ++ (if j % w = i then [l[j]] else []) := by
  rw [take_snoc l j h, colw_snoc, List.length_take, Nat.min_eq_left (by omega)]
theorem colw_le (w i : Nat) (l : List Int) : (colw w i l).length ≤ l.length := by
  unfold colw
  rw [List.length_map]
  exact Nat.le_trans (List.length_filter_le _ _) (by simp)
theorem stripe_length (l : List Int) (w : Nat) : (stripeL l w).length = w := by simp [stripeL]
theorem stripe_get (l : List Int) (w i : Nat) (h : i < (stripeL l w).length) : (stripeL l w)[i] = 256 :: colw w i l := by simp [stripeL]
theorem stripe_rd (l : List Int) (w i : Nat) (h : i < w) : rd_L1 (stripeL l w) (i : Int) = 256 :: colw w i l := by
  rw [rdL_lt _ i (by rw [stripe_length]; exact h), stripe_get]
theorem stripe_step (l : List Int) (w j : Nat) (hw : 0 < w) (h : j < l.length) : (stripeL (l.take j) w).set (j % w) ((256 :: colw w (j % w) (l.take j)) ++ [l[j]]) = stripeL (l.take (j + 1)) w := by
  apply List.ext_getElem
  · rw [List.length_set, stripe_length, stripe_length]
  · intro i h1 h2
    rw [List.length_set, stripe_length] at h1
    rw [stripe_get, colw_take w i l j h, List.getElem_set]
    by_cases hi : j % w = i
    · rw [if_pos hi, if_pos hi, hi]; simp
    · rw [if_neg hi, if_neg hi, stripe_get]; simp
def wdB (a : Int) : Bool := if a = 1 then true else if a = 2 then true else (a == 4)
theorem wdB_nat (a : Int) (h : wdB a = true) : ∃ w : Nat, a = (w : Int) ∧ (w = 1 ∨ w = 2 ∨ w = 4) := by
  unfold wdB at h
  split at h
  · exact ⟨1, by omega, by omega⟩
  split at h
  · exact ⟨2, by omega, by omega⟩
  · exact ⟨4, by have := beq_iff_eq.mp h; omega, by omega⟩
theorem iIsWidth_eq (a : Int) : impl_IsWidth.f a = some (wdB a) := by
  unfold impl_IsWidth.f wdB
  split
  · rfl
  split <;> rfl
theorem iRows (l : List Int) (w : Nat) (hw : w ≤ 4) (d : Nat) : ∀ (i : Nat), i + d = w → ∀ k, impl_StripeBytes.l0 (k + d + 1) l (w : Int) (List.replicate i [256]) (w : Int) (i : Int) = impl_StripeBytes.l1 k (w : Int) (List.replicate w [256]) l (l.length : Int) 0 := by
  induction d with
  | zero =>
    intro i hi k
    have : i = w := by omega
    subst this
    simp only [impl_StripeBytes.l0]
    rw [if_neg (by omega)]
  | succ d ih =>
    intro i hi k
    rw [show k + (d + 1) + 1 = (k + d + 1) + 1 by omega]
    simp only [impl_StripeBytes.l0]
    rw [if_pos (by omega), if_pos (by rw [List.length_replicate]; omega), wrap_succ i (by omega), ← List.replicate_succ']
    exact ih (i + 1) (by omega) k
theorem stripe_nil (w : Nat) : stripeL [] w = List.replicate w [256] := by
  apply List.ext_getElem
  · rw [stripe_length, List.length_replicate]
  · intro i h1 h2
    rw [stripe_get, List.getElem_replicate]
    rfl
theorem iCols (l : List Int) (hl : l.length ≤ 1048576) (w : Nat) (hw : w = 1 ∨ w = 2 ∨ w = 4) (d : Nat) : ∀ j : Nat, j + d = l.length → ∀ k, d < k → impl_StripeBytes.l1 k (w : Int) (stripeL (l.take j) w) l (l.length : Int) (j : Int) = some (stripeL l w) := by
  induction d with
  | zero =>
    intro j hj k hk
    obtain ⟨k, rfl⟩ : ∃ m, k = m + 1 := ⟨k - 1, by omega⟩
    simp only [impl_StripeBytes.l1]
    rw [if_neg (by omega), take_all l j (by omega)]
  | succ d ih =>
    intro j hj k hk
    obtain ⟨k, rfl⟩ : ∃ m, k = m + 1 := ⟨k - 1, by omega⟩
    have hw0 : 0 < w := by omega
    have hm : j % w < w := Nat.mod_lt _ hw0
    have ht : Int.tmod (j : Int) (w : Int) = ((j % w : Nat) : Int) := by rw [Int.tmod_eq_emod_of_nonneg (by omega)]; omega
    have hc := colw_le w (j % w) (l.take j)
    rw [List.length_take] at hc
    simp only [impl_StripeBytes.l1]
    rw [ht, if_pos (by omega), if_pos (by omega), if_pos (by omega), if_neg (by omega), if_pos (by omega), if_pos (by rw [stripe_length]; omega), stripe_rd _ _ _ hm, if_pos (by rw [List.length_cons]; omega), rd_lt l j (by omega), toNat_nat, stripe_step l w j hw0 (by omega), wrap_succ j (by omega)]
    exact ih (j + 1) (by omega) k (by omega)
/-- What both make of bytes and a width. -/
def stripeR (l : List Int) (a : Int) : List (List Int) := if bytesB l = true ∧ wdB a = true then stripeL l a.toNat else []
theorem iStripe_ev (l : List Int) (hl : l.length ≤ 1048576) (a : Int) (k : Nat) (hk : 1048650 < k) : impl_StripeBytes.f k l a = some (stripeR l a) := by
  obtain ⟨k, rfl⟩ : ∃ m, k = m + 1 := ⟨k - 1, by omega⟩
  unfold impl_StripeBytes.f stripeR
  rw [iAreBytes_ev l _ (by omega)]
  simp only [Option.bind_some]
  by_cases h1 : bytesB l = true
  · rw [if_pos h1, iIsWidth_eq]
    simp only [Option.bind_some, impl_StripeBytes.j0]
    by_cases h2 : wdB a = true
    · obtain ⟨w, rfl, hw⟩ := wdB_nat a h2
      rw [h2, if_neg (by simp), if_pos ⟨h1, rfl⟩, toNat_nat]
      obtain ⟨m, rfl⟩ : ∃ m, k = m + w + 1 := ⟨k - w - 1, by omega⟩
      have h := iRows l w (by omega) w 0 (by omega) m
      have h' := iCols l hl w hw l.length 0 (by omega) m (by omega)
      rw [List.take_zero, stripe_nil] at h'
      exact h.trans h'
    · rw [Bool.eq_false_iff.mpr h2, if_pos (show (!false) = true from rfl), if_neg (by simp)]
  · rw [if_neg h1, if_neg (by simp [h1])]
    simp [impl_StripeBytes.j0]
theorem stripeR_len (l : List Int) (a : Int) : (stripeR l a).length ≤ 4 ∧ ∀ x ∈ stripeR l a, x.length ≤ 1 + l.length := by
  unfold stripeR
  split
  · rename_i h
    obtain ⟨w, rfl, hw⟩ := wdB_nat a h.2
    rw [toNat_nat]
    refine ⟨by rw [stripe_length]; omega, fun x hx => ?_⟩
    unfold stripeL at hx
    obtain ⟨i, _, rfl⟩ := List.mem_map.1 hx
    have := colw_le w i l
    rw [List.length_cons]; omega
  · exact ⟨by simp, by simp⟩
theorem clone_ev (l : List Int) (h : l.length ≤ 1048576) : slices_Clone_int_int.f l = some l := by
  unfold slices_Clone_int_int.f
  simp only [Option.bind_some, List.nil_append, List.length_nil]
  rw [if_pos (by omega)]
theorem copyLists_l0 (l : List (List Int)) (hl : l.length ≤ 1048576) (hs : ∀ x ∈ l, SmallE x) (d : Nat) : ∀ i : Nat, i + d = l.length → ∀ k, d < k → impl_copyLists.l0 k (l.take i) l (l.length : Int) (i : Int) = some l := by
  induction d with
  | zero =>
    intro i hi k hk
    obtain ⟨k, rfl⟩ : ∃ m, k = m + 1 := ⟨k - 1, by omega⟩
    simp only [impl_copyLists.l0]
    rw [if_neg (by omega), take_all l i (by omega)]
  | succ d ih =>
    intro i hi k hk
    obtain ⟨k, rfl⟩ : ∃ m, k = m + 1 := ⟨k - 1, by omega⟩
    simp only [impl_copyLists.l0]
    rw [if_pos (by omega), if_pos (by omega), if_pos (by omega), rdL_lt l i (by omega), clone_ev _ (hs _ (List.getElem_mem (by omega)))]
    simp only [Option.bind_some]
    rw [if_pos (by rw [List.length_take]; omega), ← take_snoc l i (by omega), wrap_succ i (by omega)]
    exact ih (i + 1) (by omega) k (by omega)
theorem copyLists_ev (l : List (List Int)) (hl : l.length ≤ 1048576) (hs : ∀ x ∈ l, SmallE x) (k : Nat) (hk : l.length < k) : impl_copyLists.f k l = some l := by
  unfold impl_copyLists.f
  exact copyLists_l0 l hl hs l.length 0 (by omega) k hk
/-- After i exchanges. -/
theorem swap_l0 (l : List (List Int)) (hl : l.length ≤ 1048576) (d : Nat) : ∀ (x : List (List Int)) (i : Nat), x.length = l.length → (∀ m, m < l.length → x[m]? = if m < i ∨ l.length ≤ m + i then l[l.length - 1 - m]? else l[m]?) → i ≤ l.length → l.length ≤ i + d → ∀ k, d < k → slices_Reverse.l0 k x (i : Int) ((l.length : Int) - 1 - (i : Int)) = some l.reverse := by
  induction d with
  | zero =>
    intro x i hx hm hi0 hi k hk
    obtain ⟨k, rfl⟩ : ∃ m, k = m + 1 := ⟨k - 1, by omega⟩
    simp only [slices_Reverse.l0]
    rw [if_neg (by omega)]
    congr 1
    apply List.ext_getElem?
    intro m
    by_cases h : m < l.length
    · rw [List.getElem?_reverse h, hm m h, if_pos (by omega)]
    · rw [List.getElem?_eq_none (by omega), List.getElem?_eq_none (by simp; omega)]
  | succ d ih =>
    intro x i hx hm hi0 hi k hk
    obtain ⟨k, rfl⟩ : ∃ m, k = m + 1 := ⟨k - 1, by omega⟩
    simp only [slices_Reverse.l0]
    by_cases h : (i : Int) < (l.length : Int) - 1 - (i : Int)
    · have hj : (l.length : Int) - 1 - (i : Int) = ((l.length - 1 - i : Nat) : Int) := by omega
      rw [if_pos h, if_pos (by omega), if_pos (by omega), wrap_id _ (by omega), wrap_id _ (by omega), hj, toNat_nat, toNat_nat]
      have e1 : ((i : Int) + 1) = ((i + 1 : Nat) : Int) := by omega
      have e2 : ((l.length - 1 - i : Nat) : Int) - 1 = (l.length : Int) - 1 - ((i + 1 : Nat) : Int) := by omega
      rw [e1, e2]
      refine ih _ (i + 1) (by simp [hx]) (fun m hml => ?_) (by omega) (by omega) k (by omega)
      have hxi : x.getD i [] = (x[i]?).getD [] := List.getD_eq_getElem?_getD ..
      have hxj : x.getD (l.length - 1 - i) [] = (x[l.length - 1 - i]?).getD [] := List.getD_eq_getElem?_getD ..
      rw [hm i (by omega), if_neg (by omega), List.getElem?_eq_getElem (by omega)] at hxi
      rw [hm (l.length - 1 - i) (by omega), if_neg (by omega), List.getElem?_eq_getElem (by omega)] at hxj
      by_cases m1 : m = l.length - 1 - i
      · subst m1
        rw [List.getElem?_set_self (by simp; omega), hxi, if_pos (by omega), show l.length - 1 - (l.length - 1 - i) = i by omega, List.getElem?_eq_getElem (by omega)]
        rfl
      · rw [List.getElem?_set_ne (Ne.symm m1)]
        by_cases m2 : m = i
        · subst m2
          rw [List.getElem?_set_self (by omega), hxj, if_pos (by omega), List.getElem?_eq_getElem (by omega)]
          rfl
        · rw [List.getElem?_set_ne (Ne.symm m2), hm m hml]
          by_cases m3 : m < i ∨ l.length ≤ m + i
          · rw [if_pos m3, if_pos (by omega)]
          · rw [if_neg m3, if_neg (by omega)]
    · rw [if_neg h]
      congr 1
      apply List.ext_getElem?
      intro m
      by_cases h' : m < l.length
      · rw [List.getElem?_reverse h', hm m h']
        by_cases m3 : m < i ∨ l.length ≤ m + i
        · rw [if_pos m3]
        · rw [if_neg m3, show l.length - 1 - m = m by omega]
      · rw [List.getElem?_eq_none (by omega), List.getElem?_eq_none (by simp; omega)]
theorem iRev_ev (l : List (List Int)) (hl : l.length ≤ 1048576) (hs : ∀ x ∈ l, SmallE x) (k : Nat) (hk : l.length < k) : impl_ReverseLanes.f k l = some l.reverse := by
  unfold impl_ReverseLanes.f
  rw [copyLists_ev l hl hs k hk]
  simp only [Option.bind_some]
  unfold slices_Reverse.f
  rw [wrap_id _ (by omega)]
  have h := swap_l0 l hl l.length l 0 rfl (fun m hm => by rw [if_neg (by omega)]) (by omega) (by omega) k (by omega)
  simpa using h
def skB (x : Int) : Bool := decide (0 ≤ x ∧ x ≤ 3)
theorem notSk_eq (x : Int) : impl_SkewLanes_1.f x = some (!skB x) := by
  unfold impl_SkewLanes_1.f
  rw [within_eq]
  rfl
theorem cSkew_l0 (l : List (Int)) (hl : l.length ≤ 1048576) (d : Nat) : ∀ i : Nat, i + d = l.length → ∀ k, 0 + d < k → ∃ r, slices_IndexFunc_int_int__impl_SkewLanes_1.l0 k l (l.length : Int) (i : Int) = some r ∧ decide (r ≥ 0) = (l.drop i).any (fun x => !skB x) := by
  induction d with
  | zero =>
    intro i hi k hk
    obtain ⟨k, rfl⟩ : ∃ m, k = m + 1 := ⟨k - 1, by omega⟩
    refine ⟨-1, ?_, ?_⟩
    · simp only [slices_IndexFunc_int_int__impl_SkewLanes_1.l0]
      rw [if_neg (show ¬ (i : Int) < (l.length : Int) by omega)]
    · rw [drop_all l i (by omega)]; rfl
  | succ d ih =>
    intro i hi k hk
    obtain ⟨k, rfl⟩ : ∃ m, k = m + 1 := ⟨k - 1, by omega⟩
    have hlt : i < l.length := by omega
    simp only [slices_IndexFunc_int_int__impl_SkewLanes_1.l0]
    rw [if_pos (show (i : Int) < (l.length : Int) by omega), if_pos (show (0 : Int) ≤ (i : Int) by omega), if_pos (show (i : Int) < (l.length : Int) by omega), rd_lt l i hlt, notSk_eq l[i]]
    simp only [Option.bind_some]
    by_cases hp : (fun x => !skB x) l[i] = true
    · rw [if_pos hp]
      exact ⟨_, rfl, by rw [any_drop_yes l i hlt _ hp, decide_eq_true (by omega)]⟩
    · rw [if_neg hp, wrap_succ i (by omega)]
      obtain ⟨r, h1, h2⟩ := ih (i + 1) (by omega) k (by omega)
      exact ⟨r, h1, by rw [h2, any_drop_no l i hlt _ hp]⟩
theorem cSkew_ev (l : List (Int)) (hl : l.length ≤ 1048576) (k : Nat) (hk : 0 + l.length < k) : slices_ContainsFunc_int_int__impl_SkewLanes_1.f k l = some (l.any (fun x => !skB x)) := by
  obtain ⟨r, h1, h2⟩ := cSkew_l0 l hl l.length 0 (by omega) k hk
  unfold slices_ContainsFunc_int_int__impl_SkewLanes_1.f slices_IndexFunc_int_int__impl_SkewLanes_1.f
  have c0 : ((0 : Nat) : Int) = 0 := rfl
  rw [c0] at h1
  rw [h1]
  simp only [Option.bind_some]
  rw [h2]; rfl
/-- Lanes, each behind as many zeros as it is late by. -/
def skewL : List (List Int) → List Int → List (List Int)
  | x :: l, n :: s => (List.replicate n.toNat 0 ++ x) :: skewL l s
  | _, _ => []
theorem skewL_length : ∀ (l : List (List Int)) (s : List Int), l.length = s.length → (skewL l s).length = l.length
  | [], _, _ => rfl
  | _ :: l, [], h => by simp at h
  | x :: l, n :: s, h => by simp [skewL, skewL_length l s (by simpa using h)]
theorem skewL_small : ∀ (l : List (List Int)) (s : List Int), (∀ n ∈ s, skB n = true) → (∀ x ∈ l, x.length ≤ 1048576) → ∀ x ∈ skewL l s, x.length ≤ 1048579
  | [], _, _, _, x, hx => by simp [skewL] at hx
  | _ :: l, [], _, _, x, hx => by simp [skewL] at hx
  | y :: l, n :: s, hs, hl, x, hx => by
    simp only [skewL, List.mem_cons] at hx
    rcases hx with rfl | hx
    · have h1 := hs n (by simp)
      have h2 := hl y (by simp)
      unfold skB at h1
      have h1 := of_decide_eq_true h1
      rw [List.length_append, List.length_replicate]
      omega
    · exact skewL_small l s (fun n hn => hs n (by simp [hn])) (fun z hz => hl z (by simp [hz])) x hx
def skewR (L : List (List Int)) (S : List Int) : List (List Int) := if L.length = S.length ∧ S.all skB = true then skewL L S else []
theorem iSkew_l0 (L : List (List Int)) (S : List Int) (hl : L.length = S.length) (hn : L.length ≤ 1048576) (hL : ∀ x ∈ L, x.length ≤ 1048576) (hS : ∀ n ∈ S, skB n = true) (d : Nat) : ∀ (o : List (List Int)) (i : Nat), i + d = L.length → o.length = i → ∀ k, d < k → impl_SkewLanes.l0 k S o L (L.length : Int) (i : Int) = some (o ++ skewL (L.drop i) (S.drop i)) := by
  induction d with
  | zero =>
    intro o i hi ho k hk
    obtain ⟨k, rfl⟩ : ∃ m, k = m + 1 := ⟨k - 1, by omega⟩
    simp only [impl_SkewLanes.l0]
    rw [if_neg (by omega), drop_all L i (by omega), drop_all S i (by omega)]
    simp [skewL]
  | succ d ih =>
    intro o i hi ho k hk
    obtain ⟨k, rfl⟩ : ∃ m, k = m + 1 := ⟨k - 1, by omega⟩
    have hLi := hL _ (List.getElem_mem (show i < L.length by omega))
    have h : 0 ≤ S[i] ∧ S[i] ≤ 3 := of_decide_eq_true (hS _ (List.getElem_mem (by omega)))
    simp only [impl_SkewLanes.l0]
    rw [if_pos (by omega), if_pos (by omega), if_pos (by omega), if_pos (by omega), rd_lt S i (by omega), rdL_lt L i (by omega), wrap_id _ (by omega), if_pos h.1, if_pos (by omega), if_pos (by omega)]
    simp only [Option.bind_some, List.length_replicate]
    rw [if_pos (by omega), if_pos (by omega), wrap_succ i (by omega), ih _ (i + 1) (by omega) (by simp [ho]) k (by omega), drop_cons S i (by omega), drop_cons L i (by omega)]
    simp only [skewL, List.append_assoc, List.singleton_append]
theorem iSkew_ev (L : List (List Int)) (S : List Int) (hn : L.length ≤ 1048576) (hL : ∀ x ∈ L, x.length ≤ 1048576) (hS : S.length ≤ 1048576) (k : Nat) (hk : 1048580 < k) : impl_SkewLanes.f k L S = some (skewR L S) := by
  obtain ⟨k, rfl⟩ : ∃ m, k = m + 1 := ⟨k - 1, by omega⟩
  unfold impl_SkewLanes.f skewR
  by_cases h : L.length = S.length
  · rw [if_pos (by omega), cSkew_ev S (by omega) _ (by omega)]
    simp only [Option.bind_some, impl_SkewLanes.j0]
    by_cases h3 : S.all skB = true
    · have h4 : (S.any fun x => !skB x) = false := by have := any_not S skB; rw [h3] at this; simpa using this
      rw [h4, if_neg (by simp), if_pos ⟨h, h3⟩]
      have h1 := iSkew_l0 L S h hn hL (fun n hn' => List.all_eq_true.1 h3 n hn') L.length [] 0 (by omega) rfl k (by omega)
      rw [List.drop_zero, List.drop_zero, List.nil_append] at h1
      exact h1
    · have h4 : (S.any fun x => !skB x) = true := by have := any_not S skB; rw [Bool.eq_false_iff.mpr h3] at this; simpa using this
      rw [h4, if_pos rfl, if_neg (fun h5 => h3 h5.2)]
  · rw [if_neg (by omega), if_neg (fun h4 => h h4.1)]
    simp [impl_SkewLanes.j0]
theorem skewR_facts (L : List (List Int)) (S : List Int) (hn : L.length ≤ 1048576) (hL : ∀ x ∈ L, x.length ≤ 1048576) : (skewR L S).length ≤ 1048576 ∧ ∀ x ∈ skewR L S, x.length ≤ 1048579 := by
  unfold skewR
  split
  · rename_i h
    exact ⟨by rw [skewL_length L S h.1]; exact hn, skewL_small L S (fun n hn' => List.all_eq_true.1 h.2 n hn') hL⟩
  · exact ⟨by simp, by simp⟩
theorem skewL_le : ∀ (l : List (List Int)) (s : List Int), (∀ n ∈ s, skB n = true) → ∀ m : Nat, (∀ x ∈ l, x.length ≤ m) → ∀ x ∈ skewL l s, x.length ≤ m + 3
  | [], _, _, _, _, x, hx => by simp [skewL] at hx
  | _ :: l, [], _, _, _, x, hx => by simp [skewL] at hx
  | y :: l, n :: s, hs, m, hl, x, hx => by
    simp only [skewL, List.mem_cons] at hx
    rcases hx with rfl | hx
    · have h1 : 0 ≤ n ∧ n ≤ 3 := of_decide_eq_true (hs n (by simp))
      have h2 := hl y (by simp)
      rw [List.length_append, List.length_replicate]
      omega
    · exact skewL_le l s (fun n hn => hs n (by simp [hn])) m (fun z hz => hl z (by simp [hz])) x hx
/-- Where a lane's mark stands. -/
def mk256 (l : List Int) : Nat := l.findIdx (fun x => x == 256)
def alB (l : List Int) : Bool := decide (mk256 l ≤ 3 ∧ mk256 l < l.length)
def cutA (l : List Int) : List Int := l.drop (mk256 l + 1)
theorem mk256_at (l : List Int) (j : Nat) (h : j < l.length) (hj : j ≤ mk256 l) : l[j] = 256 ↔ j = mk256 l := by
  constructor
  · intro e
    by_cases hlt : j < mk256 l
    · have := List.not_of_lt_findIdx hlt
      simp [e] at this
    · omega
  · intro e
    subst e
    have := List.findIdx_getElem (w := h) (p := fun x : Int => x == 256)
    exact beq_iff_eq.mp this
theorem mk256_le (l : List Int) : mk256 l ≤ l.length := List.findIdx_le_length
def alR (L : List (List Int)) : List (List Int) × Bool := if wdB (L.length : Int) = true ∧ L.all alB = true then (L.map cutA, true) else ([], false)
theorem ix_l0 (l : List Int) (hl : l.length ≤ 1048576) (d : Nat) : ∀ j : Nat, j ≤ mk256 l → j + d = l.length → ∀ k, d < k → slices_Index_int_int.l0 k l 256 (l.length : Int) (j : Int) = some (if mk256 l < l.length then (mk256 l : Int) else -1) := by
  have hle := mk256_le l
  induction d with
  | zero =>
    intro j hj hd k hk
    obtain ⟨k, rfl⟩ : ∃ m, k = m + 1 := ⟨k - 1, by omega⟩
    simp only [slices_Index_int_int.l0]
    rw [if_neg (by omega), if_neg (by omega)]
  | succ d ih =>
    intro j hj hd k hk
    obtain ⟨k, rfl⟩ : ∃ m, k = m + 1 := ⟨k - 1, by omega⟩
    simp only [slices_Index_int_int.l0]
    rw [if_pos (by omega), if_pos (by omega), if_pos (by omega), rd_lt l j (by omega)]
    by_cases hq : l[j] = 256
    · have e := (mk256_at l j (by omega) hj).1 hq
      rw [if_pos hq.symm, ← e, if_pos (by omega)]
    · have hne : j ≠ mk256 l := fun e => hq ((mk256_at l j (by omega) hj).2 e)
      rw [if_neg (fun e => hq e.symm), wrap_succ j (by omega)]
      exact ih (j + 1) (by omega) (by omega) k (by omega)
theorem mk256_take (l : List Int) : mk256 (l.take (min l.length 4)) = min (min l.length 4) (mk256 l) := by
  unfold mk256
  exact List.findIdx_take
theorem ix_ev (l : List Int) (k : Nat) (hk : 4 < k) : slices_Index_int_int.f k (l.take (min l.length 4)) 256 = some (if alB l = true then (mk256 l : Int) else -1) := by
  have hlen : (l.take (min l.length 4)).length = min l.length 4 := by rw [List.length_take]; omega
  unfold slices_Index_int_int.f
  have h := ix_l0 (l.take (min l.length 4)) (by omega) (min l.length 4) 0 (by omega) (by omega) k (by omega)
  have h2 : ((0 : Nat) : Int) = 0 := rfl
  rw [h2] at h
  rw [h, hlen, mk256_take]
  unfold alB
  by_cases h1 : mk256 l ≤ 3 ∧ mk256 l < l.length
  · rw [if_pos (by omega), if_pos (decide_eq_true h1)]
    congr 2
    omega
  · rw [if_neg (by omega), if_neg (by simpa using h1)]
theorem iAl_l0 (L : List (List Int)) (hL : ∀ x ∈ L, x.length ≤ 1048576) (hI : L.length ≤ 4) (d : Nat) : ∀ (o : List (List Int)) (i : Nat), i + d = L.length → o.length = i → ∀ k, d + 10 < k → impl_AlignLanes.l0 k o L (L.length : Int) (i : Int) = some (if (L.drop i).all alB = true then (o ++ (L.drop i).map cutA, true) else ([], false)) := by
  induction d with
  | zero =>
    intro o i hi ho k hk
    obtain ⟨k, rfl⟩ : ∃ m, k = m + 1 := ⟨k - 1, by omega⟩
    simp only [impl_AlignLanes.l0]
    rw [if_neg (by omega), drop_all L i (by omega)]
    simp
  | succ d ih =>
    intro o i hi ho k hk
    obtain ⟨k, rfl⟩ : ∃ m, k = m + 1 := ⟨k - 1, by omega⟩
    have hx := hL _ (List.getElem_mem (show i < L.length by omega))
    have hmn : mn (L[i].length : Int) 4 = ((min L[i].length 4 : Nat) : Int) := by unfold mn; split <;> omega
    simp only [impl_AlignLanes.l0]
    rw [if_pos (by omega), if_pos (by omega), if_pos (by omega), rdL_lt L i (by omega), hmn, toNat_nat, if_pos (by omega), if_pos (by omega), ix_ev L[i] k (by omega)]
    simp only [Option.bind_some]
    rw [drop_cons L i (by omega), List.all_cons, List.map_cons]
    by_cases hb : alB L[i] = true
    · have hb' := of_decide_eq_true hb
      rw [if_pos hb, if_neg (by omega), wrap_succ _ (by omega), toNat_nat, if_pos (by omega), if_pos (by omega), clone_ev _ (by rw [List.length_drop]; omega)]
      simp only [Option.bind_some]
      rw [if_pos (by omega), wrap_succ i (by omega), ih _ (i + 1) (by omega) (by simp [ho]) k (by omega), hb, Bool.true_and]
      simp only [List.append_assoc, List.singleton_append]
      rfl
    · rw [if_neg hb, if_pos (by omega), Bool.eq_false_iff.mpr hb, Bool.false_and, if_neg (by simp)]
theorem iAl_ev (L : List (List Int)) (hL : ∀ x ∈ L, x.length ≤ 1048576) (k : Nat) (hk : 20 < k) : impl_AlignLanes.f k L = some (alR L) := by
  unfold impl_AlignLanes.f alR
  rw [iIsWidth_eq]
  simp only [Option.bind_some]
  by_cases h : wdB (L.length : Int) = true
  · obtain ⟨w, hw, hw'⟩ := wdB_nat _ h
    rw [if_pos h]
    have h1 := iAl_l0 L hL (by omega) L.length [] 0 (by omega) rfl k (by omega)
    rw [List.drop_zero, List.nil_append] at h1
    have h2 : ((0 : Nat) : Int) = 0 := rfl
    rw [h2] at h1
    rw [h1]
    by_cases h3 : L.all alB = true
    · rw [if_pos h3, if_pos ⟨h, h3⟩]
    · rw [if_neg h3, if_neg (fun h4 => h3 h4.2)]
  · rw [if_neg h, if_neg (fun h4 => h h4.1)]
theorem alR_facts (L : List (List Int)) (hn : L.length ≤ 1048576) (hL : ∀ x ∈ L, x.length ≤ 1048576) : (alR L).1.length ≤ 1048576 ∧ ∀ x ∈ (alR L).1, SmallE x := by
  unfold alR
  split
  · refine ⟨by rw [List.length_map]; exact hn, fun x hx => ?_⟩
    obtain ⟨y, hy, rfl⟩ := List.mem_map.1 hx
    have := hL y hy
    unfold SmallE cutA
    rw [List.length_drop]
    omega
  · exact ⟨by simp, by simp⟩
def dv (m w : Nat) : Nat := m / w
theorem dv_le (m w : Nat) : dv m w ≤ m := Nat.div_le_self m w
theorem iStripe_any (l : List Int) (a : Int) (k : Nat) (hk : 1048650 < k) : impl_StripeBytes.f k l a = some (stripeR l a) := by
  by_cases h1 : bytesB l = true
  · exact iStripe_ev l (by have := bytesB_len h1; omega) a k hk
  · obtain ⟨k, rfl⟩ : ∃ m, k = m + 1 := ⟨k - 1, by omega⟩
    unfold impl_StripeBytes.f stripeR
    rw [iAreBytes_ev l _ (by omega)]
    simp only [Option.bind_some]
    rw [if_neg h1, if_neg (by simp [h1])]
    simp [impl_StripeBytes.j0]
/-- What lies at place k where lanes are read in turn. -/
def elt (L : List (List Int)) (w k : Nat) : Int := rd (rd_L1 L ((k % w : Nat) : Int)) ((dv k w : Nat) : Int)
def inter (L : List (List Int)) (w m : Nat) : List Int := (List.range m).map (elt L w)
theorem inter_succ (L : List (List Int)) (w m : Nat) : inter L w (m + 1) = inter L w m ++ [elt L w m] := by simp [inter, List.range_succ]
theorem inter_len (L : List (List Int)) (w m : Nat) : (inter L w m).length = m := by simp [inter]
def Has (L : List (List Int)) (w k : Nat) : Prop := dv k w < (rd_L1 L ((k % w : Nat) : Int)).length
instance (L : List (List Int)) (w k : Nat) : Decidable (Has L w k) := by unfold Has; infer_instance
/-- How many of the first m places fall to lane i. -/
def cnt (w i m : Nat) : Nat := (m + (w - 1 - i)) / w
theorem totL_app (a b : List (List Int)) : totL (a ++ b) = totL a + totL b := by
  induction a with
  | nil => simp [totL]
  | cons x a ih => simp only [List.cons_append, totL, ih]; omega
theorem cnt_step (w i m : Nat) (hw : w = 1 ∨ w = 2 ∨ w = 4) (hi : i < w) : cnt w i (m + 1) = cnt w i m + (if m % w = i then 1 else 0) := by
  unfold cnt
  rcases hw with rfl | rfl | rfl <;> split <;> omega
theorem cnt_at (w m : Nat) (hw : w = 1 ∨ w = 2 ∨ w = 4) : cnt w (m % w) m = dv m w := by
  unfold cnt dv
  rcases hw with rfl | rfl | rfl <;> omega
theorem cnt_zero (w i : Nat) (hi : i < w) : cnt w i 0 = 0 := by
  unfold cnt
  exact Nat.div_eq_of_lt (by omega)
theorem cols (L : List (List Int)) (w : Nat) (hw : w = 1 ∨ w = 2 ∨ w = 4) (m : Nat) (hv : ∀ k, k < m → Has L w k) (i : Nat) (hi : i < w) :
    cnt w i m ≤ (rd_L1 L (i : Int)).length ∧ colw w i (inter L w m) = (rd_L1 L (i : Int)).take (cnt w i m) := by
  induction m with
  | zero => rw [cnt_zero w i hi]; exact ⟨Nat.zero_le _, by simp [inter, colw]⟩
  | succ m ih =>
    obtain ⟨h1, h2⟩ := ih (fun k hk => hv k (by omega))
    rw [cnt_step w i m hw hi, inter_succ, colw_snoc, inter_len, h2]
    by_cases h : m % w = i
    · have hm := hv m (by omega)
      unfold Has at hm
      have hc := cnt_at w m hw
      rw [h] at hm hc
      rw [if_pos h, if_pos h, hc]
      refine ⟨by omega, ?_⟩
      rw [take_snoc _ _ hm]
      congr 2
      unfold elt
      rw [h, rd_lt _ _ hm]
    · rw [if_neg h, if_neg h, Nat.add_zero, List.append_nil]
      exact ⟨h1, rfl⟩
theorem rdL_nil (L : List (List Int)) (i : Nat) (h : L.length ≤ i) : rd_L1 L (i : Int) = [] := by
  unfold rd_L1
  rw [toNat_nat, List.getD_eq_getElem?_getD, List.getElem?_eq_none h]
  rfl
theorem tot4 (L : List (List Int)) (w : Nat) (hw : w = 1 ∨ w = 2 ∨ w = 4) (hl : L.length = w) :
    (w = 1 → totL L = (rd_L1 L ((0 : Nat) : Int)).length) ∧ (w = 2 → totL L = (rd_L1 L ((0 : Nat) : Int)).length + (rd_L1 L ((1 : Nat) : Int)).length) ∧
    (w = 4 → totL L = (rd_L1 L ((0 : Nat) : Int)).length + (rd_L1 L ((1 : Nat) : Int)).length + (rd_L1 L ((2 : Nat) : Int)).length + (rd_L1 L ((3 : Nat) : Int)).length) := by
  refine ⟨fun h => ?_, fun h => ?_, fun h => ?_⟩
  · match L, hl.trans h with
    | [a], _ => simp [totL, rd_L1]
  · match L, hl.trans h with
    | [a, b], _ => simp [totL, rd_L1]
  · match L, hl.trans h with
    | [a, b, c, d], _ => simp [totL, rd_L1]; omega
theorem cnt_sum (m : Nat) : cnt 1 0 m = m ∧ cnt 2 0 m + cnt 2 1 m = m ∧ cnt 4 0 m + cnt 4 1 m + cnt 4 2 m + cnt 4 3 m = m := by
  unfold cnt
  refine ⟨by omega, by omega, by omega⟩
theorem sum_le (L : List (List Int)) (w : Nat) (hw : w = 1 ∨ w = 2 ∨ w = 4) (hl : L.length = w) (m : Nat) (hv : ∀ k, k < m → Has L w k) : m ≤ totL L := by
  obtain ⟨t1, t2, t4⟩ := tot4 L w hw hl
  have c := fun i hi => (cols L w hw m hv i hi).1
  obtain ⟨s1, s2, s4⟩ := cnt_sum m
  rcases hw with rfl | rfl | rfl
  · have := c 0 (by omega); have := t1 rfl; omega
  · have := c 0 (by omega); have := c 1 (by omega); have := t2 rfl; omega
  · have := c 0 (by omega); have := c 1 (by omega); have := c 2 (by omega); have := c 3 (by omega); have := t4 rfl; omega
theorem all_in (L : List (List Int)) (w : Nat) (hw : w = 1 ∨ w = 2 ∨ w = 4) (hl : L.length = w) (hv : ∀ k, k < totL L → Has L w k) (i : Nat) (hi : i < w) : colw w i (inter L w (totL L)) = rd_L1 L (i : Int) := by
  obtain ⟨t1, t2, t4⟩ := tot4 L w hw hl
  have c := fun i hi => (cols L w hw _ hv i hi).1
  have h2 := (cols L w hw _ hv i hi).2
  have he : (rd_L1 L (i : Int)).length ≤ cnt w i (totL L) := by
    obtain ⟨s1, s2, s4⟩ := cnt_sum (totL L)
    rcases hw with rfl | rfl | rfl
    · have := c 0 (by omega); have := t1 rfl
      obtain rfl : i = 0 := by omega
      omega
    · have := c 0 (by omega); have := c 1 (by omega); have := t2 rfl
      rcases (show i = 0 ∨ i = 1 by omega) with rfl | rfl <;> omega
    · have := c 0 (by omega); have := c 1 (by omega); have := c 2 (by omega); have := c 3 (by omega); have := t4 rfl
      rcases (show i = 0 ∨ i = 1 ∨ i = 2 ∨ i = 3 by omega) with rfl | rfl | rfl | rfl <;> omega
  rw [h2, take_all _ _ he]
theorem all_out (L : List (List Int)) (w : Nat) (hw : w = 1 ∨ w = 2 ∨ w = 4) (hl : L.length = w) (m : Nat) (hv : ∀ k, k < m → Has L w k) (h : ∀ i, i < w → colw w i (inter L w m) = rd_L1 L (i : Int)) : m = totL L := by
  obtain ⟨t1, t2, t4⟩ := tot4 L w hw hl
  have c : ∀ i, i < w → (rd_L1 L (i : Int)).length = cnt w i m := fun i hi => by
    have h1 := cols L w hw m hv i hi
    rw [← h i hi, h1.2, List.length_take, Nat.min_eq_left h1.1]
  obtain ⟨s1, s2, s4⟩ := cnt_sum m
  rcases hw with rfl | rfl | rfl
  · have := c 0 (by omega); have := t1 rfl; omega
  · have := c 0 (by omega); have := c 1 (by omega); have := t2 rfl; omega
  · have := c 0 (by omega); have := c 1 (by omega); have := c 2 (by omega); have := c 3 (by omega); have := t4 rfl; omega
/-- The first place that no lane has. -/
theorem first_out (L : List (List Int)) (w : Nat) (hw : w = 1 ∨ w = 2 ∨ w = 4) (hl : L.length = w) : ∃ M, M ≤ totL L ∧ (∀ k, k < M → Has L w k) ∧ ¬ Has L w M := by
  have key : ∀ d m, m + d = totL L + 1 → (∀ k, k < m → Has L w k) → ∃ M, (∀ k, k < M → Has L w k) ∧ ¬ Has L w M := by
    intro d
    induction d with
    | zero =>
      intro m hm hv
      have := sum_le L w hw hl m hv
      omega
    | succ d ih =>
      intro m hm hv
      by_cases h : Has L w m
      · exact ih (m + 1) (by omega) (fun k hk => by
          by_cases hk' : k = m
          · rw [hk']; exact h
          · exact hv k (by omega))
      · exact ⟨m, hv, h⟩
  obtain ⟨M, h1, h2⟩ := key (totL L + 1) 0 (by omega) (fun k hk => by omega)
  exact ⟨M, sum_le L w hw hl M h1, h1, h2⟩
theorem colw_cnt (L : List (List Int)) (w : Nat) (hw : w = 1 ∨ w = 2 ∨ w = 4) (i : Nat) (hi : i < w) (m : Nat) : (colw w i (inter L w m)).length = cnt w i m := by
  induction m with
  | zero => rw [cnt_zero w i hi]; simp [inter, colw]
  | succ m ih =>
    rw [cnt_step w i m hw hi, inter_succ, colw_snoc, inter_len, List.length_append, ih]
    by_cases h : m % w = i
    · rw [if_pos h, if_pos h]; rfl
    · rw [if_neg h, if_neg h]; rfl
def joinR (L : List (List Int)) (w : Nat) : List Int × Bool := if (∀ i, i < w → colw w i (inter L w (totL L)) = rd_L1 L (i : Int)) ∧ bytesB (inter L w (totL L)) = true then (inter L w (totL L), true) else ([], false)
theorem bytes_take (L : List (List Int)) (w m : Nat) (h : 40 < m) : bytesB (inter L w m) = false := by
  unfold bytesB
  rw [inter_len, decide_eq_false (by omega), Bool.and_false]
/-- What either makes of lanes whose first gap is M. -/
theorem join_at (L : List (List Int)) (w : Nat) (hw : w = 1 ∨ w = 2 ∨ w = 4) (hl : L.length = w) (M : Nat) (hM : M ≤ totL L) (hv : ∀ k, k < M → Has L w k) (hx : ¬ Has L w M) :
    (M = totL L → joinR L w = if bytesB (inter L w M) = true then (inter L w M, true) else ([], false)) ∧ (M < totL L → joinR L w = ([], false)) := by
  refine ⟨fun h => ?_, fun h => ?_⟩
  · subst h
    unfold joinR
    by_cases hb : bytesB (inter L w (totL L)) = true
    · rw [if_pos ⟨fun i hi => all_in L w hw hl hv i hi, hb⟩, if_pos hb]
    · rw [if_neg (fun h => hb h.2), if_neg hb]
  · unfold joinR
    refine if_neg (fun hc => ?_)
    have hi : M % w < w := Nat.mod_lt _ (by omega)
    have h1 : (colw w (M % w) (inter L w (totL L))).length = (rd_L1 L ((M % w : Nat) : Int)).length := by rw [hc.1 _ hi]
    rw [colw_cnt L w hw _ hi] at h1
    refine hx ?_
    unfold Has
    rw [← h1]
    unfold cnt dv
    rcases hw with rfl | rfl | rfl <;> omega
theorem eqI (a b : List Int) (hb : a.length ≤ 1048576) (k : Nat) (hk : a.length < k) : slices_Equal_int_int.f k a b = some (decide (a = b)) := equal_ev a b (by omega) k hk
theorem iJ_yes (L : List (List Int)) (w : Nat) (hl : L.length = w) (hw : w ≤ 4) (o : List Int) (ho : o.length ≤ 40) (h : ∀ i, i < w → colw w i o = rd_L1 L (i : Int)) (d : Nat) : ∀ i : Nat, i + d = w → ∀ k, d + 50 < k → impl_JoinLanes.l1 k L o (stripeL o w) (w : Int) (i : Int) = some (o, true) := by
  induction d with
  | zero =>
    intro i hi k hk
    obtain ⟨k, rfl⟩ : ∃ m, k = m + 1 := ⟨k - 1, by omega⟩
    simp only [impl_JoinLanes.l1]
    rw [if_neg (by omega)]
  | succ d ih =>
    intro i hi k hk
    obtain ⟨k, rfl⟩ : ∃ m, k = m + 1 := ⟨k - 1, by omega⟩
    have hc := colw_le w i o
    simp only [impl_JoinLanes.l1]
    rw [if_pos (by omega), if_pos (by omega), if_pos (by rw [stripe_length]; omega), stripe_rd o w i (by omega), if_pos (by rw [List.length_cons]; omega), if_pos (by omega), List.drop_succ_cons, List.drop_zero, eqI _ _ (by omega) k (by omega), decide_eq_true (h i (by omega))]
    simp only [Option.bind_some, if_true]
    rw [wrap_succ i (by omega)]
    exact ih (i + 1) (by omega) k (by omega)
theorem iJ_no (L : List (List Int)) (w : Nat) (hl : L.length = w) (hw : w ≤ 4) (o : List Int) (ho : o.length ≤ 40) (i0 : Nat) (hi0 : i0 < w) (h : ¬ colw w i0 o = rd_L1 L (i0 : Int)) (d : Nat) : ∀ i : Nat, i + d = i0 → ∀ k, d + 50 < k → impl_JoinLanes.l1 k L o (stripeL o w) (w : Int) (i : Int) = some ([], false) := by
  induction d with
  | zero =>
    intro i hi k hk
    obtain ⟨k, rfl⟩ : ∃ m, k = m + 1 := ⟨k - 1, by omega⟩
    obtain rfl : i = i0 := by omega
    have hc := colw_le w i o
    simp only [impl_JoinLanes.l1]
    rw [if_pos (by omega), if_pos (by omega), if_pos (by rw [stripe_length]; omega), stripe_rd o w i (by omega), if_pos (by rw [List.length_cons]; omega), if_pos (by omega), List.drop_succ_cons, List.drop_zero, eqI _ _ (by omega) k (by omega), decide_eq_false h]
    simp
  | succ d ih =>
    intro i hi k hk
    obtain ⟨k, rfl⟩ : ∃ m, k = m + 1 := ⟨k - 1, by omega⟩
    have hc := colw_le w i o
    simp only [impl_JoinLanes.l1]
    rw [if_pos (by omega), if_pos (by omega), if_pos (by rw [stripe_length]; omega), stripe_rd o w i (by omega), if_pos (by rw [List.length_cons]; omega), if_pos (by omega), List.drop_succ_cons, List.drop_zero, eqI _ _ (by omega) k (by omega)]
    simp only [Option.bind_some]
    by_cases hq : colw w i o = rd_L1 L (i : Int)
    · rw [decide_eq_true hq, if_pos rfl, wrap_succ i (by omega)]
      exact ih (i + 1) (by omega) k (by omega)
    · rw [decide_eq_false hq, if_neg (by simp)]
theorem iJ_l0 (L : List (List Int)) (hL : ∀ x ∈ L, x.length ≤ 1048576) (w : Nat) (hw : w = 1 ∨ w = 2 ∨ w = 4) (hl : L.length = w) (M : Nat) (hM : M ≤ totL L) (hv : ∀ k, k < M → Has L w k) (hx : ¬ Has L w M) (d : Nat) :
    ∀ m : Nat, m + d = M → ∀ k, d + 5000000 < k → impl_JoinLanes.l0 k L (inter L w m) (w : Int) (m : Int) = some (joinR L w) := by
  obtain ⟨j1, j2⟩ := join_at L w hw hl M hM hv hx
  have ht := totL_le 1048576 L hL
  have htm : ∀ m : Nat, Int.tmod (m : Int) (w : Int) = ((m % w : Nat) : Int) := fun m => by rw [Int.tmod_eq_emod_of_nonneg (by omega)]; rfl
  have htd : ∀ m : Nat, Int.tdiv (m : Int) (w : Int) = ((dv m w : Nat) : Int) := fun m => by rw [Int.tdiv_eq_ediv_of_nonneg (by omega)]; rfl
  have hmd : ∀ m : Nat, dv m w ≤ m := fun m => dv_le m w
  induction d with
  | zero =>
    intro m hm k hk
    obtain ⟨k, rfl⟩ : ∃ m, k = m + 1 := ⟨k - 1, by omega⟩
    obtain rfl : m = M := by omega
    have hmw : m % w < w := Nat.mod_lt _ (by omega)
    have hd := hmd m
    have hh := hx
    unfold Has at hh
    simp only [impl_JoinLanes.l0]
    rw [if_neg (by omega), htm m, if_pos (by omega), if_pos (by omega), htd m, wrap_id _ (by omega), if_neg (by omega), iStripe_any (inter L w m) (w : Int) k (by omega)]
    simp only [Option.bind_some]
    by_cases hb : bytesB (inter L w m) = true
    · have hr : stripeR (inter L w m) (w : Int) = stripeL (inter L w m) w := by
        unfold stripeR
        rw [if_pos ⟨hb, by unfold wdB; rcases hw with rfl | rfl | rfl <;> rfl⟩, toNat_nat]
      have h40 := bytesB_len hb
      rw [inter_len] at h40
      rw [hr, stripe_length, if_neg (by omega)]
      by_cases hall : ∀ i, i < w → colw w i (inter L w m) = rd_L1 L (i : Int)
      · rw [j1 (all_out L w hw hl m hv hall), if_pos hb]
        exact iJ_yes L w hl (by omega) _ (by rw [inter_len]; omega) hall w 0 (by omega) k (by omega)
      · have hne : ∃ i, i < w ∧ ¬ colw w i (inter L w m) = rd_L1 L (i : Int) := by
          by_cases hc : ∃ i, i < w ∧ ¬ colw w i (inter L w m) = rd_L1 L (i : Int)
          · exact hc
          · exact absurd (fun i hi => by
              by_cases he : colw w i (inter L w m) = rd_L1 L (i : Int)
              · exact he
              · exact absurd ⟨i, hi, he⟩ hc) hall
        obtain ⟨i0, hi0, hne⟩ := hne
        have hlt : m < totL L := by
          by_cases he : m = totL L
          · exact absurd (fun i hi => by rw [he]; exact all_in L w hw hl (he ▸ hv) i hi) hall
          · omega
        rw [j2 hlt]
        exact iJ_no L w hl (by omega) _ (by rw [inter_len]; omega) i0 hi0 hne i0 0 (by omega) k (by omega)
    · have hr : stripeR (inter L w m) (w : Int) = [] := by
        unfold stripeR
        rw [if_neg (fun h => hb h.1)]
      rw [hr, if_pos (by simp), iAreBytes_ev _ k (by omega)]
      simp only [Option.bind_some]
      rw [if_neg hb]
      by_cases he : m = totL L
      · rw [j1 he, if_neg hb]
      · rw [j2 (by omega)]
  | succ d ih =>
    intro m hm k hk
    obtain ⟨k, rfl⟩ : ∃ m, k = m + 1 := ⟨k - 1, by omega⟩
    have hmw : m % w < w := Nat.mod_lt _ (by omega)
    have hd := hmd m
    have hh := hv m (by omega)
    unfold Has at hh
    simp only [impl_JoinLanes.l0]
    rw [if_neg (by omega), htm m, if_pos (by omega), if_pos (by omega), htd m, wrap_id _ (by omega), if_pos (by omega), if_pos (by omega), if_pos (by rw [inter_len]; omega), wrap_succ m (by omega)]
    have e : inter L w m ++ [rd (rd_L1 L ((m % w : Nat) : Int)) ((dv m w : Nat) : Int)] = inter L w (m + 1) := (inter_succ L w m).symm
    rw [e]
    exact ih (m + 1) (by omega) k (by omega)
theorem iJoin_ev (L : List (List Int)) (hL : ∀ x ∈ L, x.length ≤ 1048576) (k : Nat) (hk : 10000000 < k) : impl_JoinLanes.f k L = some (if wdB (L.length : Int) = true then joinR L L.length else ([], false)) := by
  unfold impl_JoinLanes.f
  rw [iIsWidth_eq]
  simp only [Option.bind_some]
  by_cases h : wdB (L.length : Int) = true
  · obtain ⟨w, hw, hw'⟩ := wdB_nat _ h
    have hl : L.length = w := by omega
    obtain ⟨M, hM, hv, hx⟩ := first_out L w hw' hl
    have ht := totL_le 1048576 L hL
    rw [if_pos h, if_pos h, hl]
    exact iJ_l0 L hL w hw' hl M hM hv hx M 0 (by omega) k (by omega)
  · rw [if_neg h, if_neg h]
theorem joinR_len (L : List (List Int)) (w : Nat) : (joinR L w).1.length ≤ 40 := by
  unfold joinR
  split
  · rename_i h
    exact bytesB_len h.2
  · simp
theorem rd_range (p : List Int) (hp : p.length = 12) (hr : ∀ x ∈ p, 0 ≤ x ∧ x < 10000) (i : Nat) (hi : i < 12) : 0 ≤ rd p (i : Int) ∧ rd p (i : Int) < 10000 := by
  rw [rd_lt p i (by omega)]
  exact hr _ (List.getElem_mem _)
theorem colw_cnt_take (w : Nat) (hw : w = 1 ∨ w = 2 ∨ w = 4) (i : Nat) (hi : i < w) (l : List Int) (m : Nat) (hm : m ≤ l.length) : (colw w i (l.take m)).length = cnt w i m := by
  induction m with
  | zero => rw [cnt_zero w i hi]; simp [colw]
  | succ m ih =>
    rw [cnt_step w i m hw hi, colw_take w i l m (by omega), List.length_append, ih (by omega)]
    by_cases h : m % w = i
    · rw [if_pos h, if_pos h]; rfl
    · rw [if_neg h, if_neg h]; rfl
theorem colw_app (w i : Nat) (a : List Int) (c : List Int) : ∃ r, colw w i (a ++ c) = colw w i a ++ r := by
  unfold colw
  rw [List.zipIdx_append, List.filter_append, List.map_append]
  exact ⟨_, rfl⟩
theorem colw_at (w : Nat) (hw : w = 1 ∨ w = 2 ∨ w = 4) (l : List Int) (k : Nat) (hk : k < l.length) : rd (colw w (k % w) l) ((dv k w : Nat) : Int) = l[k] ∧ dv k w < (colw w (k % w) l).length := by
  have hi : k % w < w := Nat.mod_lt _ (by omega)
  have h1 := colw_take w (k % w) l k hk
  rw [if_pos rfl] at h1
  have h2 := colw_cnt_take w hw (k % w) hi l k (by omega)
  rw [cnt_at w k hw] at h2
  obtain ⟨r, h3⟩ := colw_app w (k % w) (l.take (k + 1)) (l.drop (k + 1))
  rw [List.take_append_drop, h1] at h3
  have hl : dv k w < (colw w (k % w) l).length := by
    rw [h3, List.length_append, List.length_append, h2, List.length_singleton]
    omega
  refine ⟨?_, hl⟩
  rw [rd_lt _ _ hl]
  have h4 : (colw w (k % w) l)[dv k w]? = some l[k] := by
    rw [h3, List.getElem?_append_left (by rw [List.length_append, h2, List.length_singleton]; omega), List.getElem?_append_right (by omega), h2, Nat.sub_self]
    rfl
  rw [List.getElem?_eq_getElem hl] at h4
  exact Option.some.inj h4
def colsL (l : List Int) (w : Nat) : List (List Int) := (List.range w).map fun i => colw w i l
theorem colsL_len (l : List Int) (w : Nat) : (colsL l w).length = w := by simp [colsL]
theorem colsL_rd (l : List Int) (w i : Nat) (h : i < w) : rd_L1 (colsL l w) (i : Int) = colw w i l := by
  rw [rdL_lt _ i (by rw [colsL_len]; exact h)]
  simp [colsL]
theorem colsL_tot (l : List Int) (w : Nat) (hw : w = 1 ∨ w = 2 ∨ w = 4) : totL (colsL l w) = l.length := by
  obtain ⟨t1, t2, t4⟩ := tot4 (colsL l w) w hw (colsL_len l w)
  have c := fun i hi => colw_cnt_take w hw i hi l l.length (Nat.le_refl _)
  obtain ⟨s1, s2, s4⟩ := cnt_sum l.length
  have rr := fun i hi => colsL_rd l w i hi
  simp only [List.take_length] at c
  rcases hw with rfl | rfl | rfl
  · rw [t1 rfl, rr 0 (by omega), c 0 (by omega)]; exact s1
  · rw [t2 rfl, rr 0 (by omega), rr 1 (by omega), c 0 (by omega), c 1 (by omega)]; exact s2
  · rw [t4 rfl, rr 0 (by omega), rr 1 (by omega), rr 2 (by omega), rr 3 (by omega), c 0 (by omega), c 1 (by omega), c 2 (by omega), c 3 (by omega)]; exact s4
theorem inter_cols (l : List Int) (w : Nat) (hw : w = 1 ∨ w = 2 ∨ w = 4) : inter (colsL l w) w l.length = l := by
  apply List.ext_getElem
  · rw [inter_len]
  · intro k h1 h2
    have hi : k % w < w := Nat.mod_lt _ (by omega)
    have : (inter (colsL l w) w l.length)[k] = elt (colsL l w) w k := by simp [inter]
    rw [this]
    unfold elt
    rw [colsL_rd l w _ hi]
    exact (colw_at w hw l k h2).1
theorem join_back (l : List Int) (w : Nat) (hw : w = 1 ∨ w = 2 ∨ w = 4) (hb : bytesB l = true) : joinR (colsL l w) w = (l, true) := by
  unfold joinR
  rw [colsL_tot l w hw, inter_cols l w hw, if_pos ⟨fun i hi => (colsL_rd l w i hi).symm, hb⟩]
theorem mk_zeros (n : Nat) (c : List Int) : mk256 (List.replicate n 0 ++ 256 :: c) = n := by
  unfold mk256
  induction n with
  | zero => simp [List.findIdx_cons]
  | succ n ih => rw [List.replicate_succ, List.cons_append, List.findIdx_cons]; simp [ih]
theorem al_zeros (n : Nat) (hn : n ≤ 3) (c : List Int) : alB (List.replicate n 0 ++ 256 :: c) = true ∧ cutA (List.replicate n 0 ++ 256 :: c) = c := by
  refine ⟨decide_eq_true ⟨by rw [mk_zeros]; exact hn, by rw [mk_zeros, List.length_append, List.length_replicate, List.length_cons]; omega⟩, ?_⟩
  unfold cutA
  rw [mk_zeros, List.drop_append, List.length_replicate, List.drop_of_length_le (by rw [List.length_replicate]; omega), List.nil_append, show n + 1 - n = 1 by omega]
  rfl
theorem al_skew : ∀ (l s : List (List Int)) (t : List Int), l = s.map (fun c => 256 :: c) → l.length = t.length → (∀ n ∈ t, skB n = true) → (skewL l t).all alB = true ∧ (skewL l t).map cutA = s
  | [], s, t, h, _, _ => by
    have : s = [] := by simpa using h.symm
    subst this
    simp [skewL]
  | x :: l, s, [], _, h, _ => by simp at h
  | x :: l, [], n :: t, h, _, _ => by simp at h
  | x :: l, c :: s, n :: t, h, h2, h3 => by
    simp only [List.map_cons, List.cons.injEq] at h
    obtain ⟨rfl, h⟩ := h
    obtain ⟨g1, g2⟩ := al_skew l s t h (by simpa using h2) (fun m hm => h3 m (by simp [hm]))
    have hn : 0 ≤ n ∧ n ≤ 3 := of_decide_eq_true (h3 n (by simp))
    obtain ⟨f1, f2⟩ := al_zeros n.toNat (by omega) c
    simp only [skewL, List.all_cons, List.map_cons, f1, f2, g1, g2, Bool.true_and, and_self]
/-- The delays that are drawn. -/
def lateL (p : List Int) (n : Nat) : List Int := (List.range n).map fun i => Int.tmod (rd p ((i + 1 : Nat) : Int)) 4
theorem late_succ (p : List Int) (n : Nat) : lateL p (n + 1) = lateL p n ++ [Int.tmod (rd p ((n + 1 : Nat) : Int)) 4] := by simp [lateL, List.range_succ]
theorem late_len (p : List Int) (n : Nat) : (lateL p n).length = n := by simp [lateL]
theorem late_ok (p : List Int) (hp : p.length = 12) (hr : ∀ x ∈ p, 0 ≤ x ∧ x < 10000) (n : Nat) (hn : n ≤ 4) : ∀ x ∈ lateL p n, skB x = true := fun x hx => by
  unfold lateL at hx
  obtain ⟨i, hi, rfl⟩ := List.mem_map.1 hx
  have hi' := List.mem_range.1 hi
  obtain ⟨q0, q1⟩ := rd_range p hp hr (i + 1) (by omega)
  have u := tmod_range (rd p ((i + 1 : Nat) : Int)) 4 q0 (by omega)
  exact decide_eq_true (by omega)
theorem rows_same (b : List Int) (w : Nat) (hw : w = 1 ∨ w = 2 ∨ w = 4) (hb : b.length ≤ 24) (d : Nat) : ∀ i : Nat, i + d = w → ∀ k, d + 1000 < k → laws_FnLanes.l1 k b (w : Int) (stripeL b w) true b true (stripeL b w) (i : Int) = some true := by
  induction d with
  | zero =>
    intro i hi k hk
    obtain ⟨k, rfl⟩ : ∃ m, k = m + 1 := ⟨k - 1, by omega⟩
    simp only [laws_FnLanes.l1]
    rw [if_neg (by omega), sameInts_ev b b (by omega) k (by omega)]
    simp
  | succ d ih =>
    intro i hi k hk
    obtain ⟨k, rfl⟩ : ∃ m, k = m + 1 := ⟨k - 1, by omega⟩
    have hc := colw_le w i b
    simp only [laws_FnLanes.l1]
    rw [if_pos (by omega), if_pos (by omega), if_pos (by rw [stripe_length]; omega), if_pos (by rw [stripe_length]; omega), stripe_rd b w i (by omega), sameInts_ev (256 :: colw w i b) (256 :: colw w i b) (by rw [List.length_cons]; omega) k (by rw [List.length_cons]; omega)]
    simp only [Option.bind_some, decide_true, if_true]
    rw [wrap_succ i (by omega)]
    exact ih (i + 1) (by omega) k (by omega)
theorem lanes_l0 (b p : List Int) (w : Nat) (hw : w = 1 ∨ w = 2 ∨ w = 4) (hb : b.length ≤ 24) (hbB : bytesB b = true) (hp : p.length = 12) (hr : ∀ x ∈ p, 0 ≤ x ∧ x < 10000) (d : Nat) : ∀ i : Nat, i + d = w → ∀ k, d + 20000000 < k → laws_FnLanes.l0 k b p (w : Int) (stripeL b w) (lateL p i) (i : Int) = some true := by
  induction d with
  | zero =>
    intro i hi k hk
    obtain ⟨k, rfl⟩ : ∃ m, k = m + 1 := ⟨k - 1, by omega⟩
    obtain rfl : i = w := by omega
    have hst : ∀ x ∈ stripeL b i, x.length ≤ 1048576 := fun x hx => by
      unfold stripeL at hx
      obtain ⟨j, _, rfl⟩ := List.mem_map.1 hx
      have := colw_le i j b
      rw [List.length_cons]; omega
    have hsl := stripe_length b i
    have hla := late_ok p hp hr i (by omega)
    have hsk : skewR (stripeL b i) (lateL p i) = skewL (stripeL b i) (lateL p i) := by
      unfold skewR
      rw [if_pos ⟨by rw [hsl, late_len], List.all_eq_true.2 hla⟩]
    have hsm := skewL_small (stripeL b i) (lateL p i) hla hst
    have hskl := skewL_length (stripeL b i) (lateL p i) (by rw [hsl, late_len])
    obtain ⟨a1, a2⟩ := al_skew (stripeL b i) (colsL b i) (lateL p i) (by unfold stripeL colsL; rw [List.map_map]; rfl) (by rw [hsl, late_len]) hla
    have hwd : wdB (i : Int) = true := by unfold wdB; rcases hw with rfl | rfl | rfl <;> rfl
    have hal : alR (skewL (stripeL b i) (lateL p i)) = (colsL b i, true) := by
      unfold alR
      rw [if_pos ⟨by rw [hskl, hsl]; exact hwd, a1⟩, a2]
    have hsm2 : ∀ x ∈ skewL (stripeL b i) (lateL p i), x.length ≤ 1048576 := fun x hx => by
      have h24 : ∀ y ∈ stripeL b i, y.length ≤ 25 := fun y hy => by
        unfold stripeL at hy
        obtain ⟨j, _, rfl⟩ := List.mem_map.1 hy
        have := colw_le i j b
        rw [List.length_cons]; omega
      have := skewL_le (stripeL b i) (lateL p i) hla 25 h24 x hx
      omega
    have hcl : ∀ x ∈ colsL b i, x.length ≤ 1048576 := fun x hx => by
      unfold colsL at hx
      obtain ⟨j, _, rfl⟩ := List.mem_map.1 hx
      have := colw_le i j b
      omega
    have hj := iJoin_ev (colsL b i) hcl k (by omega)
    rw [colsL_len, if_pos hwd, join_back b i hw hbB] at hj
    have hrv := iRev_ev (stripeL b i) (by omega) hst k (by omega)
    have hrv2 := iRev_ev (stripeL b i).reverse (by rw [List.length_reverse]; omega) (fun x hx => hst x (by simpa using hx)) k (by rw [List.length_reverse]; omega)
    rw [List.reverse_reverse] at hrv2
    simp only [laws_FnLanes.l0]
    rw [if_neg (by omega), iSkew_ev (stripeL b i) (lateL p i) (by omega) hst (by rw [late_len]; omega) k (by omega), hsk]
    simp only [Option.bind_some]
    rw [iAl_ev _ hsm2 k (by omega), hal]
    simp only [Option.bind_some]
    rw [hj]
    simp only [Option.bind_some]
    rw [hrv]
    simp only [Option.bind_some]
    rw [hrv2]
    simp only [Option.bind_some]
    rw [hsl, if_pos rfl, if_pos rfl, iIsWidth_eq, hwd]
    simp only [Option.bind_some]
    obtain ⟨k, rfl⟩ : ∃ m, k = m + 1 := ⟨k - 1, by omega⟩
    simp only [laws_FnLanes.j1]
    rw [if_neg (by simp)]
    exact rows_same b i hw hb i 0 (by omega) k (by omega)
  | succ d ih =>
    intro i hi k hk
    obtain ⟨k, rfl⟩ : ∃ m, k = m + 1 := ⟨k - 1, by omega⟩
    simp only [laws_FnLanes.l0]
    have e : wrap64 (1 + (i : Int)) = ((i + 1 : Nat) : Int) := by rw [wrap_id _ (by omega)]; omega
    rw [if_pos (by omega), e, if_pos (by omega), if_pos (by omega), if_pos (by rw [late_len]; omega), wrap_succ i (by omega), ← late_succ]
    exact ih (i + 1) (by omega) k (by omega)
theorem FnLanes : laws_FnLanes.Pure := by
  intro l hm hl _
  have hl : (l.length : Int) ≤ 140737488351232 := by omega
  obtain ⟨K, f, t, a, n, g, z, xs, hp, e2⟩ := drawPacket_ok l hl
  obtain ⟨b, hb1, hb2, e3⟩ := enc_ok hp
  obtain ⟨p, hp1, hp2, e4⟩ := places_ok l hl
  have hx8 := pkB_len hp
  have hbl : b.length ≤ 24 := by omega
  have hbB : bytesB b = true := by unfold bytesB; rw [hb2]; exact (Bool.true_and _).trans (decide_eq_true (by omega))
  obtain ⟨q0, q1⟩ := rd_range p hp1 hp2 0 (by omega)
  have u := tmod_range (rd p ((0 : Nat) : Int)) 3 q0 (by omega)
  obtain ⟨e, he⟩ : ∃ e : Int, e = Int.tmod (rd p 0) 3 := ⟨_, rfl⟩
  have hu : 0 ≤ e ∧ e < 3 := by
    have : e = Int.tmod (rd p ((0 : Nat) : Int)) 3 := he
    omega
  obtain ⟨w, hw, hw'⟩ : ∃ w : Nat, rd [1, 2, 4] e = (w : Int) ∧ (w = 1 ∨ w = 2 ∨ w = 4) := by
    rcases (show e = 0 ∨ e = 1 ∨ e = 2 by omega) with h | h | h <;> rw [h]
    · exact ⟨1, rfl, by omega⟩
    · exact ⟨2, rfl, by omega⟩
    · exact ⟨4, rfl, by omega⟩
  refine ⟨30000000, ?_⟩
  unfold laws_FnLanes.f laws_big.f
  simp only [Option.bind_some]
  by_cases hbig : (l.length : Int) > 1048576
  · rw [decide_eq_true hbig, if_pos rfl]
  rw [decide_eq_false hbig, if_neg (by simp), e2 30000000 (by omega)]
  simp only [Option.bind_some]
  rw [e3 30000000 (by omega)]
  simp only [Option.bind_some]
  rw [e4 30000000 (by omega)]
  simp only [Option.bind_some]
  rw [← he, if_pos (by omega), if_pos hu.1, if_pos (by simp only [List.length_cons, List.length_nil]; omega), hw, iStripe_any b (w : Int) 30000000 (by omega)]
  simp only [Option.bind_some]
  have hr : stripeR b (w : Int) = stripeL b w := by
    unfold stripeR
    rw [if_pos ⟨hbB, by unfold wdB; rcases hw' with rfl | rfl | rfl <;> rfl⟩, toNat_nat]
  rw [hr]
  exact lanes_l0 b p w hw' hbl hbB hp1 hp2 w 0 (by omega) 30000000 (by omega)

end Go.Proofs.Ytoafbbopicbofaa.Pure
