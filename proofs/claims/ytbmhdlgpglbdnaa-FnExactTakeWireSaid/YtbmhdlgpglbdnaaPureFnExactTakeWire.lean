/- The statement FnExactTakeWire over lists of whole numbers: the program and the reference take the same frame off the wire, or none, and neither changes what it is given; the program's answer shares no memory with its argument or with the answer of another call. Rows longer than the law's own bound are let by, as the law itself does. -/
import Derived.Test.YtbmhdlgpglbdnaaPFnExactTakeWirex5
import Derived.Test.YtbmhdlgpglbdnaaXLists
namespace Go.Proofs.Ytbmhdlgpglbdnaa.Pure
set_option linter.unusedVariables false
set_option linter.unusedSimpArgs false
open Go.RowKit Go.Proofs.Ytbmhdlgpglbdnaa.PFnExactTakeWire Go.Proofs.YtbmhdlgpglbdnaaW.PrintWords Go.Proofs.YtbmhdlgpglbdnaaW.PrintLast Go.Proofs.YtbmhdlgpglbdnaaW.PrintMore Go.Proofs.YtbmhdlgpglbdnaaX

theorem within_eq (a l m : Int) : impl_within.f a l m = some (decide (l ≤ a ∧ a ≤ m)) := by
  unfold impl_within.f
  by_cases h : a ≥ l
  · have h' : l ≤ a := h
    rw [if_pos h]; simp [h']
  · have h' : ¬ l ≤ a := h
    rw [if_neg h]; simp [h']
theorem l01In_eq (a l m : Int) : spec_l01In.f a l m = some (decide (l ≤ a ∧ a ≤ m)) := by
  unfold spec_l01In.f
  by_cases h : a ≥ l
  · have h' : l ≤ a := h
    rw [if_pos h]; simp [h']
  · have h' : ¬ l ≤ a := h
    rw [if_neg h]; simp [h']
theorem any_not {α : Type} (l : List α) (p : α → Bool) : (!l.any fun x => !p x) = l.all p := by
  induction l with
  | nil => rfl
  | cons a l ih => rw [List.any_cons, List.all_cons, Bool.not_or, ih, Bool.not_not]
def byteB (x : Int) : Bool := decide (0 ≤ x ∧ x ≤ 255)
def bytesB (l : List Int) : Bool := l.all byteB && decide (l.length ≤ 40)
theorem sAreBytes_l0 (l : List (Int)) (hl : l.length ≤ 1048580) (d : Nat) : ∀ i : Nat, i + d = l.length → ∀ k, 0 + d < k → spec_AreBytes.l0 k l (i : Int) = some ((l.drop i).all byteB && decide (l.length ≤ 40)) := by
  induction d with
  | zero =>
    intro i hi k hk
    obtain ⟨k, rfl⟩ : ∃ m, k = m + 1 := ⟨k - 1, by omega⟩
    simp only [spec_AreBytes.l0]
    rw [if_neg (show ¬ (i : Int) < (l.length : Int) by omega), drop_all l i (by omega)]
    simp; omega
  | succ d ih =>
    intro i hi k hk
    obtain ⟨k, rfl⟩ : ∃ m, k = m + 1 := ⟨k - 1, by omega⟩
    have hlt : i < l.length := by omega
    simp only [spec_AreBytes.l0]
    rw [if_pos (show (i : Int) < (l.length : Int) by omega), if_pos (show (0 : Int) ≤ (i : Int) by omega), rd_lt l i hlt, show spec_l01In.f l[i] 0 255 = some (byteB l[i]) from l01In_eq _ _ _]
    simp only [Option.bind_some]
    by_cases hp : byteB l[i] = true
    · rw [if_pos hp, wrap_succ i (by omega), ih (i + 1) (by omega) k (by omega), drop_cons l i hlt, List.all_cons, hp, Bool.true_and]
    · rw [if_neg hp, drop_cons l i hlt, List.all_cons, Bool.eq_false_iff.mpr hp, Bool.false_and, Bool.false_and]
theorem sAreBytes_ev (l : List Int) (hl : l.length ≤ 1048580) (k : Nat) (hk : l.length < k) : spec_AreBytes.f k l = some (bytesB l) := sAreBytes_l0 l hl l.length 0 (by omega) k (by omega)
theorem notByte_eq (x : Int) : impl_AreBytes_1.f x = some (!byteB x) := by
  unfold impl_AreBytes_1.f impl_isByte.f
  rw [within_eq]
  rfl
theorem cBytes_l0 (l : List (Int)) (hl : l.length ≤ 1048580) (d : Nat) : ∀ i : Nat, i + d = l.length → ∀ k, 0 + d < k → ∃ r, slices_IndexFunc_int_int__impl_AreBytes_1.l0 k l (l.length : Int) (i : Int) = some r ∧ decide (r ≥ 0) = (l.drop i).any (fun x => !byteB x) := by
  induction d with
  | zero =>
    intro i hi k hk
    obtain ⟨k, rfl⟩ : ∃ m, k = m + 1 := ⟨k - 1, by omega⟩
    refine ⟨-1, ?_, ?_⟩
    · simp only [slices_IndexFunc_int_int__impl_AreBytes_1.l0]
      rw [if_neg (show ¬ (i : Int) < (l.length : Int) by omega)]
    · rw [drop_all l i (by omega)]; rfl
  | succ d ih =>
    intro i hi k hk
    obtain ⟨k, rfl⟩ : ∃ m, k = m + 1 := ⟨k - 1, by omega⟩
    have hlt : i < l.length := by omega
    simp only [slices_IndexFunc_int_int__impl_AreBytes_1.l0]
    rw [if_pos (show (i : Int) < (l.length : Int) by omega), if_pos (show (0 : Int) ≤ (i : Int) by omega), if_pos (show (i : Int) < (l.length : Int) by omega), rd_lt l i hlt, notByte_eq l[i]]
    simp only [Option.bind_some]
    by_cases hp : (fun x => !byteB x) l[i] = true
    · rw [if_pos hp]
      exact ⟨_, rfl, by rw [any_drop_yes l i hlt _ hp, decide_eq_true (by omega)]⟩
    · rw [if_neg hp, wrap_succ i (by omega)]
      obtain ⟨r, h1, h2⟩ := ih (i + 1) (by omega) k (by omega)
      exact ⟨r, h1, by rw [h2, any_drop_no l i hlt _ hp]⟩
theorem cBytes_ev (l : List (Int)) (hl : l.length ≤ 1048580) (k : Nat) (hk : 0 + l.length < k) : slices_ContainsFunc_int_int__impl_AreBytes_1.f k l = some (l.any (fun x => !byteB x)) := by
  obtain ⟨r, h1, h2⟩ := cBytes_l0 l hl l.length 0 (by omega) k hk
  unfold slices_ContainsFunc_int_int__impl_AreBytes_1.f slices_IndexFunc_int_int__impl_AreBytes_1.f
  have c0 : ((0 : Nat) : Int) = 0 := rfl
  rw [c0] at h1
  rw [h1]
  simp only [Option.bind_some]
  rw [h2]; rfl
theorem iAreBytes_ev (l : List Int) (k : Nat) (hk : 40 < k) : impl_AreBytes.f k l = some (bytesB l) := by
  unfold impl_AreBytes.f bytesB
  by_cases h : (l.length : Int) ≤ 40
  · rw [if_pos h, cBytes_ev l (by omega) k (by omega)]
    simp only [Option.bind_some]
    rw [any_not, decide_eq_true (show l.length ≤ 40 by omega), Bool.and_true]
  · rw [if_neg h, decide_eq_false (show ¬ l.length ≤ 40 by omega), Bool.and_false]
def seqB (x : Int) : Bool := decide (0 ≤ x ∧ x ≤ 15)
theorem sIsSeq_eq (a : Int) : spec_IsSeq.f a = some (seqB a) := by
  unfold spec_IsSeq.f; rw [l01In_eq]; rfl
theorem iIsSeq_eq (a : Int) : impl_IsSeq.f a = some (seqB a) := by
  unfold impl_IsSeq.f; rw [within_eq]; rfl
theorem toIntS_l0 (l : List Int) (hb : l.length ≤ 1048576) (d : Nat) : ∀ (x : List Int) (i : Nat), x.length = l.length → x.take i = l.take i → i + d = l.length → ∀ k, d < k → laws_toIntS.l0 k l x (i : Int) = some l := by
  induction d with
  | zero =>
    intro x i hx ht hi k hk
    obtain ⟨k, rfl⟩ : ∃ m, k = m + 1 := ⟨k - 1, by omega⟩
    simp only [laws_toIntS.l0]
    rw [if_neg (show ¬ (i : Int) < (l.length : Int) by omega), fill_end x l i hx (by omega) ht]
  | succ d ih =>
    intro x i hx ht hi k hk
    obtain ⟨k, rfl⟩ : ∃ m, k = m + 1 := ⟨k - 1, by omega⟩
    simp only [laws_toIntS.l0]
    rw [if_pos (show (i : Int) < (l.length : Int) by omega), if_pos (show (0 : Int) ≤ (i : Int) by omega), if_pos (show (i : Int) < (x.length : Int) by omega), wrap_succ i (by omega), toNat_nat, rd_lt l i (by omega)]
    exact ih _ (i + 1) (by simp [hx]) (fill_step x l i _ (by omega) (by omega) ht rfl) (by omega) k (by omega)
theorem toIntS_ev (l : List Int) (hb : l.length ≤ 1048576) : ∀ k, l.length < k → laws_toIntS.f k l = some l := by
  intro k hk
  unfold laws_toIntS.f
  rw [if_pos (by omega), if_pos (by omega)]
  exact toIntS_l0 l hb l.length _ 0 (by simp) (by simp) (by omega) k hk
theorem eqIntS_l0 (a b : List Int) (hl : a.length = b.length) (hb : a.length < 9223372036854775807) (d : Nat) : ∀ (i : Nat), i + d = a.length → ∀ k, d < k → laws_eqIntS.l0 k a b (i : Int) = some (decide (a.drop i = b.drop i)) := by
  induction d with
  | zero =>
    intro i hi k hk
    obtain ⟨k, rfl⟩ : ∃ m, k = m + 1 := ⟨k - 1, by omega⟩
    simp only [laws_eqIntS.l0]
    rw [if_neg (show ¬ (i : Int) < (a.length : Int) by omega), drop_all a i (by omega), drop_all b i (by omega)]
    simp
  | succ d ih =>
    intro i hi k hk
    obtain ⟨k, rfl⟩ : ∃ m, k = m + 1 := ⟨k - 1, by omega⟩
    simp only [laws_eqIntS.l0]
    rw [if_pos (show (i : Int) < (a.length : Int) by omega), if_pos (show (0 : Int) ≤ (i : Int) by omega), if_pos (show (i : Int) < (b.length : Int) by omega)]
    by_cases he : rd a (i : Int) = rd b (i : Int)
    · rw [if_pos he, wrap_succ i (by omega), ih (i + 1) (by omega) k (by omega)]
      congr 1
      rw [decide_eq_decide, drop_eq_iff a b i (by omega) (by omega)]
      exact ⟨fun h => ⟨he, h⟩, fun h => h.2⟩
    · rw [if_neg he]
      congr 1
      symm
      rw [decide_eq_false_iff_not, drop_eq_iff a b i (by omega) (by omega)]
      exact fun h => he h.1
theorem eqIntS_ev (a b : List Int) (hb : a.length < 9223372036854775807) : ∀ k, a.length < k → laws_eqIntS.f k a b = some (decide (a = b)) := by
  intro k hk
  unfold laws_eqIntS.f
  by_cases hl : a.length = b.length
  · rw [if_pos (by omega)]
    exact eqIntS_l0 a b hl hb a.length 0 (by omega) k hk
  · rw [if_neg (by omega), decide_eq_false (fun h => hl (by rw [h]))]
theorem eqFrame_ev (s : Int) (l : List Int) (hl : l.length ≤ 1048576) (k : Nat) (hk : 1048577 < k) : laws_eqFrame.f k s l s l = some true := by
  unfold laws_eqFrame.f
  rw [if_pos rfl, eqIntS_ev l l (by omega) k (by omega)]
  simp
/-- The numbers s, s + 1, .. -/
def markL (n : Nat) (s : Int) : List Int := (List.range n).map fun (i : Nat) => s + (i : Int)
theorem markL_length (n : Nat) (s : Int) : (markL n s).length = n := by simp [markL]
theorem markL_get (n : Nat) (s : Int) (i : Nat) (h : i < (markL n s).length) : (markL n s)[i] = s + (i : Int) := by simp [markL]
theorem markIntS_l0 (n : Nat) (s : Int) (hn : n ≤ 1048576) (h0 : 0 ≤ s) (h1 : s ≤ 1000000000000) (d : Nat) : ∀ (x : List Int) (i : Nat), x.length = n → x.take i = (markL n s).take i → i + d = n → ∀ k, d < k → laws_markIntS.l0 k x (s + (i : Int)) (i : Int) = some (s + (n : Int), markL n s) := by
  induction d with
  | zero =>
    intro x i hx ht hi k hk
    obtain ⟨k, rfl⟩ : ∃ m, k = m + 1 := ⟨k - 1, by omega⟩
    simp only [laws_markIntS.l0]
    have hlen := markL_length n s
    rw [if_neg (show ¬ (i : Int) < (x.length : Int) by omega), fill_end x (markL n s) i (by omega) (by omega) ht, show i = n by omega]
  | succ d ih =>
    intro x i hx ht hi k hk
    obtain ⟨k, rfl⟩ : ∃ m, k = m + 1 := ⟨k - 1, by omega⟩
    have hlen := markL_length n s
    simp only [laws_markIntS.l0]
    rw [if_pos (show (i : Int) < (x.length : Int) by omega), if_pos (show (0 : Int) ≤ (i : Int) by omega), wrap_succ i (by omega), toNat_nat, wrap_id (s + (i : Int) + 1) (by omega)]
    have e : s + (i : Int) + 1 = s + ((i + 1 : Nat) : Int) := by omega
    rw [e]
    exact ih _ (i + 1) (by simp [hx]) (fill_step x (markL n s) i _ (by omega) (by omega) ht (markL_get n s i (by omega)).symm) (by omega) k (by omega)
theorem markIntS_ev (l : List Int) (s : Int) (hn : l.length ≤ 1048576) (h0 : 0 ≤ s) (h1 : s ≤ 1000000000000) (k : Nat) (hk : l.length < k) : laws_markIntS.f k l s = some (s + (l.length : Int), markL l.length s) := by
  unfold laws_markIntS.f
  have h := markIntS_l0 l.length s hn h0 h1 l.length l 0 rfl (by simp) (by omega) k hk
  simpa using h
theorem heldIntS_l0 (n : Nat) (s : Int) (hn : n ≤ 1048576) (h0 : 0 ≤ s) (h1 : s ≤ 1000000000000) (d : Nat) : ∀ (i : Nat), i + d = n → ∀ k, d < k → laws_heldIntS.l0 k (markL n s) (s + (i : Int)) (i : Int) = some (s + (n : Int)) := by
  have hlen := markL_length n s
  induction d with
  | zero =>
    intro i hi k hk
    obtain ⟨k, rfl⟩ : ∃ m, k = m + 1 := ⟨k - 1, by omega⟩
    simp only [laws_heldIntS.l0]
    rw [if_neg (show ¬ (i : Int) < ((markL n s).length : Int) by omega), show i = n by omega]
  | succ d ih =>
    intro i hi k hk
    obtain ⟨k, rfl⟩ : ∃ m, k = m + 1 := ⟨k - 1, by omega⟩
    simp only [laws_heldIntS.l0]
    rw [if_pos (show (i : Int) < ((markL n s).length : Int) by omega), if_pos (show (0 : Int) ≤ (i : Int) by omega), rd_lt _ i (by omega), markL_get n s i (by omega), if_pos rfl, wrap_succ i (by omega), wrap_id (s + (i : Int) + 1) (by omega)]
    have e : s + (i : Int) + 1 = s + ((i + 1 : Nat) : Int) := by omega
    rw [e]
    exact ih (i + 1) (by omega) k (by omega)
theorem heldIntS_ev (n : Nat) (s : Int) (hn : n ≤ 1048576) (h0 : 0 ≤ s) (h1 : s ≤ 1000000000000) (k : Nat) (hk : n < k) : laws_heldIntS.f k (markL n s) s = some (s + (n : Int)) := by
  unfold laws_heldIntS.f
  have h := heldIntS_l0 n s hn h0 h1 n 0 (by omega) k hk
  simpa using h
theorem markIntSq_l0 (n : Nat) (s : Int) (hn : n ≤ 1048576) (h0 : 0 ≤ s) (h1 : s ≤ 1000000000000) (d : Nat) : ∀ (x : List Int) (i : Nat), x.length = n → x.take i = (markL n s).take i → i + d = n → ∀ k, d < k → laws_markIntS_q.l0 k x (s + (i : Int)) (i : Int) = some (s + (n : Int), markL n s) := by
  induction d with
  | zero =>
    intro x i hx ht hi k hk
    obtain ⟨k, rfl⟩ : ∃ m, k = m + 1 := ⟨k - 1, by omega⟩
    simp only [laws_markIntS_q.l0]
    have hlen := markL_length n s
    rw [if_neg (show ¬ (i : Int) < (x.length : Int) by omega), fill_end x (markL n s) i (by omega) (by omega) ht, show i = n by omega]
  | succ d ih =>
    intro x i hx ht hi k hk
    obtain ⟨k, rfl⟩ : ∃ m, k = m + 1 := ⟨k - 1, by omega⟩
    have hlen := markL_length n s
    simp only [laws_markIntS_q.l0]
    rw [if_pos (show (i : Int) < (x.length : Int) by omega), if_pos (show (0 : Int) ≤ (i : Int) by omega), wrap_succ i (by omega), toNat_nat, wrap_id (s + (i : Int) + 1) (by omega)]
    have e : s + (i : Int) + 1 = s + ((i + 1 : Nat) : Int) := by omega
    rw [e]
    exact ih _ (i + 1) (by simp [hx]) (fill_step x (markL n s) i _ (by omega) (by omega) ht (markL_get n s i (by omega)).symm) (by omega) k (by omega)
theorem markIntSq_ev (l : List Int) (s : Int) (hn : l.length ≤ 1048576) (h0 : 0 ≤ s) (h1 : s ≤ 1000000000000) (k : Nat) (hk : l.length < k) : laws_markIntS_q.f k l s = some (s + (l.length : Int), markL l.length s) := by
  unfold laws_markIntS_q.f
  have h := markIntSq_l0 l.length s hn h0 h1 l.length l 0 rfl (by simp) (by omega) k hk
  simpa using h
theorem equal_l0 (a b : List Int) (hl : a.length = b.length) (hb : a.length < 9223372036854775807) (d : Nat) : ∀ (i : Nat), i + d = a.length → ∀ k, d < k → slices_Equal_int_int.l0 k a b (((a.length : Nat) : Int)) (i : Int) = some (decide (a.drop i = b.drop i)) := by
  induction d with
  | zero =>
    intro i hi k hk
    obtain ⟨k, rfl⟩ : ∃ m, k = m + 1 := ⟨k - 1, by omega⟩
    simp only [slices_Equal_int_int.l0]
    rw [if_neg (show ¬ (i : Int) < (a.length : Int) by omega), drop_all a i (by omega), drop_all b i (by omega)]
    simp
  | succ d ih =>
    intro i hi k hk
    obtain ⟨k, rfl⟩ : ∃ m, k = m + 1 := ⟨k - 1, by omega⟩
    simp only [slices_Equal_int_int.l0]
    rw [if_pos (show (i : Int) < (a.length : Int) by omega), if_pos (show (0 : Int) ≤ (i : Int) by omega), if_pos (show (i : Int) < (a.length : Int) by omega), if_pos (show (i : Int) < (b.length : Int) by omega)]
    by_cases he : rd a (i : Int) = rd b (i : Int)
    · rw [if_pos he, wrap_succ i (by omega), ih (i + 1) (by omega) k (by omega)]
      congr 1
      rw [decide_eq_decide, drop_eq_iff a b i (by omega) (by omega)]
      exact ⟨fun h => ⟨he, h⟩, fun h => h.2⟩
    · rw [if_neg he]
      congr 1
      symm
      rw [decide_eq_false_iff_not, drop_eq_iff a b i (by omega) (by omega)]
      exact fun h => he h.1
theorem equal_ev (a b : List Int) (hb : a.length < 9223372036854775807) : ∀ k, a.length < k → slices_Equal_int_int.f k a b = some (decide (a = b)) := by
  intro k hk
  unfold slices_Equal_int_int.f
  by_cases hl : a.length = b.length
  · rw [if_pos (by omega)]
    exact equal_l0 a b hl hb a.length 0 (by omega) k hk
  · rw [if_neg (by omega), decide_eq_false (fun h => hl (by rw [h]))]
theorem ofInt_64g (a : Nat) (ha : a < 131072) : (BitVec.ofInt 64 (a : Int)).toNat = a := by
  rw [BitVec.toNat_ofInt]; omega
theorem i64_xor_natg (a b : Nat) (ha : a < 131072) (hb : b < 131072) : Go.bits .xor .i64 (a : Int) (b : Int) = ((a ^^^ b : Nat) : Int) := by
  have hx : a ^^^ b < 2 ^ 17 := Nat.xor_lt_two_pow (by omega) (by omega)
  show IntKind.i64.wrap ((BitVec.ofInt 64 (a : Int) ^^^ BitVec.ofInt 64 (b : Int)).toNat : Int) = _
  rw [BitVec.toNat_xor, ofInt_64g a ha, ofInt_64g b hb, IntKind.wrap_i64]
  omega
theorem xor_small (a b : Int) (ha : 0 ≤ a ∧ a ≤ 65535) (hb : 0 ≤ b ∧ b ≤ 65535) : 0 ≤ Go.bits .xor .i64 a b ∧ Go.bits .xor .i64 a b ≤ 65535 := by
  obtain ⟨x, rfl⟩ := Int.eq_ofNat_of_zero_le ha.1
  obtain ⟨y, rfl⟩ := Int.eq_ofNat_of_zero_le hb.1
  have hx : x ^^^ y < 2 ^ 16 := Nat.xor_lt_two_pow (by omega) (by omega)
  rw [i64_xor_natg x y (by omega) (by omega)]
  omega
theorem xor_top (a : Int) (ha : 65536 ≤ a ∧ a ≤ 131071) : 0 ≤ Go.bits .xor .i64 a 69665 ∧ Go.bits .xor .i64 a 69665 ≤ 65535 := by
  obtain ⟨x, rfl⟩ := Int.eq_ofNat_of_zero_le (show 0 ≤ a by omega)
  have hx : x ^^^ 69665 < 2 ^ 16 := by
    apply Nat.lt_pow_two_of_testBit
    intro i hi
    rw [Nat.testBit_xor]
    by_cases h : i = 16
    · subst h
      have h1 : x.testBit 16 = true := by rw [Nat.testBit_eq_decide_div_mod_eq]; exact decide_eq_true (by omega)
      rw [h1]
      decide
    · have hp : 2 ^ 17 ≤ 2 ^ i := Nat.pow_le_pow_right (by omega) (by omega)
      rw [Nat.testBit_lt_two_pow (show x < 2 ^ i by omega), Nat.testBit_lt_two_pow (show 69665 < 2 ^ i by omega)]
      rfl
  rw [show (69665 : Int) = ((69665 : Nat) : Int) from rfl, i64_xor_natg x 69665 (by omega) (by omega)]
  omega
/-- The check's steps. -/
def ckb : Nat → Int → Int
  | 0, s => s
  | d + 1, s => ckb d (if wrap64 (s * 2) > 65535 then Go.bits .xor .i64 (wrap64 (s * 2)) 69665 else wrap64 (s * 2))
def ck : Int → List Int → Int
  | s, [] => s
  | s, b :: r => ck (ckb 8 (Go.bits .xor .i64 s (wrap64 (b * 256)))) r
theorem ckb_range (d : Nat) : ∀ s : Int, 0 ≤ s ∧ s ≤ 65535 → 0 ≤ ckb d s ∧ ckb d s ≤ 65535 := by
  induction d with
  | zero => intro s h; exact h
  | succ d ih =>
    intro s h
    have hw : wrap64 (s * 2) = s * 2 := wrap_id _ (by omega)
    rw [ckb, hw]
    apply ih
    by_cases h1 : s * 2 > 65535
    · rw [if_pos h1]; exact xor_top _ (by omega)
    · rw [if_neg h1]; omega
theorem ck_range (l : List Int) : ∀ s : Int, 0 ≤ s ∧ s ≤ 65535 → l.all byteB = true → 0 ≤ ck s l ∧ ck s l ≤ 65535 := by
  induction l with
  | nil => intro s h _; exact h
  | cons b r ih =>
    intro s h hb
    rw [List.all_cons, Bool.and_eq_true] at hb
    have hb0 : 0 ≤ b ∧ b ≤ 255 := of_decide_eq_true hb.1
    have hw : wrap64 (b * 256) = b * 256 := wrap_id _ (by omega)
    rw [ck, hw]
    exact ih _ (ckb_range 8 _ (xor_small _ _ h (by omega))) hb.2
theorem iCheck_l1 (l : List Int) (n i : Int) (d : Nat) : ∀ (j : Nat) (s : Int), j + d = 8 → ∀ k, impl_CheckOf.l1 (k + d + 1) s l n i (j : Int) = impl_CheckOf.l0 k (ckb d s) l n (wrap64 (i + 1)) := by
  induction d with
  | zero =>
    intro j s hj k
    simp only [impl_CheckOf.l1]
    rw [if_neg (by omega)]
    rfl
  | succ d ih =>
    intro j s hj k
    rw [show k + (d + 1) + 1 = (k + d + 1) + 1 from rfl]
    simp only [impl_CheckOf.l1]
    rw [if_pos (show (j : Int) < 8 by omega), wrap_succ j (by omega), ckb]
    by_cases h : wrap64 (s * 2) > 65535
    · rw [if_pos h, if_pos h]; exact ih (j + 1) _ (by omega) k
    · rw [if_neg h, if_neg h]; exact ih (j + 1) _ (by omega) k
theorem iCheck_l0 (l : List Int) (hl : l.length ≤ 1048576) (d : Nat) : ∀ (i : Nat) (s : Int), i + d = l.length → ∀ k, 10 * d < k → impl_CheckOf.l0 k s l (l.length : Int) (i : Int) = some (ck s (l.drop i)) := by
  induction d with
  | zero =>
    intro i s hi k hk
    obtain ⟨k, rfl⟩ : ∃ m, k = m + 1 := ⟨k - 1, by omega⟩
    simp only [impl_CheckOf.l0]
    rw [if_neg (by omega), drop_all l i (by omega)]
    rfl
  | succ d ih =>
    intro i s hi k hk
    obtain ⟨k, rfl⟩ : ∃ m, k = m + 8 + 1 + 1 := ⟨k - 10, by omega⟩
    have hlt : i < l.length := by omega
    rw [impl_CheckOf.l0]
    rw [if_pos (by omega), if_pos (by omega), if_pos (by omega), rd_lt l i hlt]
    rw [show (0 : Int) = ((0 : Nat) : Int) from rfl, iCheck_l1 l (l.length : Int) (i : Int) 8 0 _ (by omega) k, wrap_succ i (by omega), ih (i + 1) _ (by omega) k (by omega), drop_cons l i hlt]
    rfl
theorem iCheck_ev (l : List Int) (h : bytesB l = true) (k : Nat) (hk : 1000 < k) : impl_CheckOf.f k l = some (ck 65535 l) := by
  have h40 : l.length ≤ 40 := by unfold bytesB at h; simp at h; exact h.2
  unfold impl_CheckOf.f
  rw [iAreBytes_ev l k (by omega), h]
  simp only [Option.bind_some, if_true]
  exact iCheck_l0 l (by omega) l.length 0 _ (by omega) k (by omega)
theorem clone_ev (l : List Int) (hl : l.length ≤ 1048580) : slices_Clone_int_int.f l = some l := by
  unfold slices_Clone_int_int.f
  simp only [Option.bind_some, List.nil_append, List.length_nil]
  rw [if_pos (by omega)]
/-- Bytes with their check behind them. -/
def addCk (l : List Int) : List Int := l ++ [ck 65535 l / 256, ck 65535 l % 256]
theorem split_ev (c : Int) (h : 0 ≤ c ∧ c ≤ 65535) : impl_SplitWord.f c = some (c / 256, c % 256) := by
  unfold impl_SplitWord.f impl_isWord.f
  rw [within_eq, decide_eq_true h]
  simp only [Option.bind_some, if_true]
  rw [Int.tdiv_eq_ediv_of_nonneg h.1, Int.tmod_eq_emod_of_nonneg h.1, wrap_id _ (by omega)]
theorem bytesB_iff (l : List Int) : bytesB l = true ↔ l.all byteB = true ∧ l.length ≤ 40 := by
  unfold bytesB
  rw [Bool.and_eq_true, decide_eq_true_eq]
theorem iAddCheck_ev (l : List Int) (hl : l.length ≤ 1048580) (k : Nat) (hk : 1100 < k) : impl_AddCheck.f k l = some (if bytesB l = true ∧ l.length ≤ 38 then addCk l else []) := by
  obtain ⟨k, rfl⟩ : ∃ m, k = m + 1 := ⟨k - 1, by omega⟩
  unfold impl_AddCheck.f
  rw [iAreBytes_ev l _ (by omega)]
  simp only [Option.bind_some, impl_AddCheck.j0]
  by_cases hb : bytesB l = true
  · rw [if_pos hb]
    by_cases h38 : (l.length : Int) > 38
    · rw [decide_eq_true h38, if_pos rfl, if_neg (by omega)]
    · have hc := ck_range l 65535 (by omega) ((bytesB_iff l).1 hb).1
      rw [decide_eq_false h38, if_neg (by decide), if_pos ⟨hb, by omega⟩, iCheck_ev l hb _ (by omega)]
      simp only [Option.bind_some]
      rw [split_ev _ hc]
      simp only [Option.bind_some]
      rw [clone_ev l hl]
      simp only [Option.bind_some]
      rw [if_pos (by simp; omega)]
      rfl
  · rw [if_neg hb, if_pos trivial, if_neg (fun h => hb h.1)]
theorem sCheck_l1 (l : List Int) (i : Int) (d : Nat) : ∀ (j : Nat) (s : Int), j + d = 8 → ∀ k, spec_CheckOf.l1 (k + d + 1) l s i (j : Int) = spec_CheckOf.l0 k l (ckb d s) (wrap64 (i + 1)) := by
  induction d with
  | zero =>
    intro j s hj k
    simp only [spec_CheckOf.l1]
    rw [if_neg (by omega)]
    rfl
  | succ d ih =>
    intro j s hj k
    rw [show k + (d + 1) + 1 = (k + d + 1) + 1 from rfl]
    simp only [spec_CheckOf.l1]
    rw [if_pos (show (j : Int) < 8 by omega), wrap_succ j (by omega), ckb]
    by_cases h : wrap64 (s * 2) > 65535
    · rw [if_pos h, if_pos h]; exact ih (j + 1) _ (by omega) k
    · rw [if_neg h, if_neg h]; exact ih (j + 1) _ (by omega) k
theorem sCheck_l0 (l : List Int) (hl : l.length ≤ 1048576) (d : Nat) : ∀ (i : Nat) (s : Int), i + d = l.length → ∀ k, 10 * d < k → spec_CheckOf.l0 k l s (i : Int) = some (ck s (l.drop i)) := by
  induction d with
  | zero =>
    intro i s hi k hk
    obtain ⟨k, rfl⟩ : ∃ m, k = m + 1 := ⟨k - 1, by omega⟩
    simp only [spec_CheckOf.l0]
    rw [if_neg (by omega), drop_all l i (by omega)]
    rfl
  | succ d ih =>
    intro i s hi k hk
    obtain ⟨k, rfl⟩ : ∃ m, k = m + 8 + 1 + 1 := ⟨k - 10, by omega⟩
    have hlt : i < l.length := by omega
    rw [spec_CheckOf.l0]
    rw [if_pos (by omega), if_pos (by omega), rd_lt l i hlt]
    rw [show (0 : Int) = ((0 : Nat) : Int) from rfl, sCheck_l1 l (i : Int) 8 0 _ (by omega) k, wrap_succ i (by omega), ih (i + 1) _ (by omega) k (by omega), drop_cons l i hlt]
    rfl
theorem sCheck_ev (l : List Int) (h : bytesB l = true) (k : Nat) (hk : 1000 < k) : spec_CheckOf.f k l = some (ck 65535 l) := by
  have h40 : l.length ≤ 40 := by unfold bytesB at h; simp at h; exact h.2
  unfold spec_CheckOf.f
  rw [sAreBytes_ev l (by omega) k (by omega), h]
  simp only [Option.bind_some, if_true]
  exact sCheck_l0 l (by omega) l.length 0 _ (by omega) k (by omega)
/-- A row of bytes that ends with the check of what stands before. -/
def takeOk (l : List Int) : Prop := 2 ≤ l.length ∧ bytesB l = true ∧ addCk (l.take (l.length - 2)) = l
instance (l : List Int) : Decidable (takeOk l) := by unfold takeOk; infer_instance
def tcR (l : List Int) : List Int × Bool := if takeOk l then (l.take (l.length - 2), true) else ([], false)
theorem bytesB_take (l : List Int) (n : Nat) (h : bytesB l = true) : bytesB (l.take n) = true := by
  rw [bytesB_iff] at h ⊢
  refine ⟨List.all_eq_true.mpr fun x hx => List.all_eq_true.mp h.1 x (List.mem_of_mem_take hx), ?_⟩
  rw [List.length_take]
  omega
theorem iTakeCheck_ev (l : List Int) (hl : l.length ≤ 1048576) (k : Nat) (hk : 1200 < k) : impl_TakeCheck.f k l = some (tcR l) := by
  unfold impl_TakeCheck.f tcR
  have hw : wrap64 ((l.length : Int) - 2) = (l.length : Int) - 2 := wrap_id _ (by omega)
  rw [hw]
  by_cases h2 : (l.length : Int) - 2 < 0
  · rw [if_pos h2, if_neg (fun h => by have := h.1; omega)]
  rw [if_neg h2, iAreBytes_ev l k (by omega)]
  simp only [Option.bind_some]
  by_cases hb : bytesB l = true
  · have hn : ((l.length : Int) - 2).toNat = l.length - 2 := by omega
    have h40 := ((bytesB_iff l).1 hb).2
    rw [if_pos hb, if_pos (by omega), if_pos (by omega), hn, iAddCheck_ev (l.take (l.length - 2)) (by rw [List.length_take]; omega) k (by omega)]
    simp only [Option.bind_some]
    rw [if_pos ⟨bytesB_take l _ hb, by rw [List.length_take]; omega⟩, equal_ev _ _ (by simp only [addCk, List.length_append, List.length_take, List.length_cons, List.length_nil]; omega) k (by simp only [addCk, List.length_append, List.length_take, List.length_cons, List.length_nil]; omega)]
    simp only [Option.bind_some]
    by_cases he : addCk (l.take (l.length - 2)) = l
    · rw [if_pos (decide_eq_true he), clone_ev _ (by rw [List.length_take]; omega), if_pos ⟨by omega, hb, he⟩]
      rfl
    · rw [decide_eq_false he, if_neg (by decide), if_neg (fun h => he h.2.2)]
  · rw [if_neg hb, if_neg (fun h => hb h.2.1)]
theorem check_iff (l : List Int) (m : Nat) (hm : l.length = m + 2) (hb : l.all byteB = true) : addCk (l.take m) = l ↔ ck 65535 (l.take m) = wrap64 (wrap64 (l[m]'(by omega) * 256) + l[m + 1]'(by omega)) := by
  have h0 : 0 ≤ l[m]'(by omega) ∧ l[m]'(by omega) ≤ 255 := of_decide_eq_true (List.all_eq_true.mp hb _ (List.getElem_mem _))
  have h1 : 0 ≤ l[m + 1]'(by omega) ∧ l[m + 1]'(by omega) ≤ 255 := of_decide_eq_true (List.all_eq_true.mp hb _ (List.getElem_mem _))
  have hd : l.drop m = [l[m]'(by omega), l[m + 1]'(by omega)] := by
    rw [drop_cons l m (by omega), drop_cons l (m + 1) (by omega), drop_all l (m + 1 + 1) (by omega)]
  have hbt : (l.take m).all byteB = true := List.all_eq_true.mpr fun x hx => List.all_eq_true.mp hb x (List.mem_of_mem_take hx)
  have hc := ck_range (l.take m) 65535 (by omega) hbt
  have e : addCk (l.take m) = l ↔ [ck 65535 (l.take m) / 256, ck 65535 (l.take m) % 256] = l.drop m := by
    unfold addCk
    constructor
    · intro h
      have h2 := h.trans (List.take_append_drop m l).symm
      exact List.append_cancel_left h2
    · intro h
      rw [h]
      exact List.take_append_drop m l
  rw [e, hd, wrap_id (l[m]'(by omega) * 256) (by omega), wrap_id _ (by omega)]
  simp only [List.cons.injEq, and_true]
  omega
theorem sTakeCheck_ev (l : List Int) (hl : l.length ≤ 1048576) (k : Nat) (hk : 1048700 < k) : spec_TakeCheck.f k l = some (tcR l) := by
  obtain ⟨k, rfl⟩ : ∃ m, k = m + 1 := ⟨k - 1, by omega⟩
  unfold spec_TakeCheck.f tcR
  rw [sAreBytes_ev l (by omega) _ (by omega)]
  simp only [Option.bind_some, spec_TakeCheck.j0]
  by_cases hb : bytesB l = true
  · rw [if_pos hb]
    by_cases h2 : (l.length : Int) < 2
    · rw [decide_eq_true h2, if_pos rfl, if_neg (fun h => by have := h.1; omega)]
    · obtain ⟨m, hm⟩ : ∃ m, l.length = m + 2 := ⟨l.length - 2, by omega⟩
      have hw : wrap64 ((l.length : Int) - 2) = (m : Int) := by rw [wrap_id _ (by omega)]; omega
      have hw1 : wrap64 ((l.length : Int) - 1) = ((m + 1 : Nat) : Int) := by rw [wrap_id _ (by omega)]; omega
      have hn : (m : Int).toNat = m := rfl
      have hn2 : l.length - 2 = m := by omega
      rw [decide_eq_false h2, if_neg (by decide), hw, hw1, if_pos (by omega), if_pos (by omega), hn, sCheck_ev _ (bytesB_take l m hb) _ (by omega)]
      simp only [Option.bind_some]
      rw [if_pos (by omega), if_pos (by omega), if_pos (by omega), rd_lt l m (by omega), rd_lt l (m + 1) (by omega), hn2]
      by_cases hc : addCk (l.take m) = l
      · rw [if_pos ((check_iff l m hm ((bytesB_iff l).1 hb).1).1 hc), if_pos (by simp only [List.length_nil, List.length_take]; omega), if_pos (show takeOk l from ⟨by omega, hb, by rw [hn2]; exact hc⟩), List.nil_append]
      · rw [if_neg (fun h => hc ((check_iff l m hm ((bytesB_iff l).1 hb).1).2 h)), if_neg (show ¬ takeOk l from fun h => hc (by have := h.2.2; rw [hn2] at this; exact this))]
  · rw [if_neg hb, if_pos trivial, if_neg (fun h => hb h.2.1)]
def twR (l : List Int) : Int × List Int × Bool := if takeOk l then (match l.take (l.length - 2) with | [] => (0, [], false) | a :: r => if seqB a = true then (a, r, true) else (0, [], false)) else (0, [], false)
theorem iTakeWire_ev (l : List Int) (hl : l.length ≤ 1048576) (k : Nat) (hk : 1200 < k) : impl_TakeWire.f k l = some (twR l) := by
  unfold impl_TakeWire.f twR
  rw [iTakeCheck_ev l hl k hk]
  simp only [Option.bind_some]
  unfold tcR
  by_cases h : takeOk l
  · simp only [if_pos h, if_true]
    generalize l.take (l.length - 2) = m
    cases m with
    | nil => rfl
    | cons a r =>
      have r0 : rd (a :: r) 0 = a := rfl
      have d1 : (a :: r).drop (1 : Int).toNat = r := rfl
      rw [if_neg (by simp only [List.length_cons]; omega), if_pos (by simp only [List.length_cons]; omega), r0, iIsSeq_eq, d1]
      simp only [Option.bind_some]
      by_cases hs : seqB a = true
      · rw [if_pos hs, if_pos (by simp only [List.length_cons]; omega), if_pos hs]
      · rw [if_neg hs, if_neg hs]
  · simp only [if_neg h, if_false]
    rfl
theorem sTakeWire_ev (l : List Int) (hl : l.length ≤ 1048576) (k : Nat) (hk : 1048700 < k) : spec_TakeWire.f k l = some (twR l) := by
  unfold spec_TakeWire.f twR
  rw [sTakeCheck_ev l hl k hk]
  simp only [Option.bind_some]
  unfold tcR
  by_cases h : takeOk l
  · simp only [if_pos h, if_true]
    generalize l.take (l.length - 2) = m
    cases m with
    | nil => rfl
    | cons a r =>
      have r0 : rd (a :: r) 0 = a := rfl
      have d1 : (a :: r).drop (1 : Int).toNat = r := rfl
      rw [if_neg (by simp only [List.length_cons]; omega), if_pos (by simp only [List.length_cons]; omega), r0, sIsSeq_eq, d1]
      simp only [Option.bind_some]
      by_cases hs : seqB a = true
      · rw [if_pos hs, if_pos (by simp only [List.length_cons]; omega), if_pos hs]
      · rw [if_neg hs, if_neg hs]
  · simp only [if_neg h, if_false]
    rfl
theorem twR_len (l : List Int) : (twR l).2.1.length ≤ 40 := by
  unfold twR
  by_cases h : takeOk l
  · have h40 := ((bytesB_iff l).1 h.2.1).2
    rw [if_pos h]
    have hm : (l.take (l.length - 2)).length ≤ 40 := by rw [List.length_take]; omega
    generalize l.take (l.length - 2) = m at hm
    cases m with
    | nil => simp
    | cons a r =>
      simp only [List.length_cons] at hm
      by_cases hs : seqB a = true
      · simp only [hs, if_true]; omega
      · simp only [hs]; simp
  · rw [if_neg h]; simp
theorem FnExactTakeWire : laws_FnExactTakeWire.Pure := by
  intro l hm _ _
  by_cases hb : (l.length : Int) > 1048576
  · exact ⟨1, by unfold laws_FnExactTakeWire.f; rw [if_pos hb]⟩
  have hl : l.length ≤ 1048576 := by omega
  obtain ⟨s, B, ok, hR⟩ : ∃ s B ok, twR l = (s, B, ok) := ⟨_, _, _, rfl⟩
  have hB : B.length ≤ 40 := by have := twR_len l; rw [hR] at this; exact this
  have h1 : ∀ k, 1048700 < k → spec_TakeWire.f k l = some (s, B, ok) := fun k h => by rw [sTakeWire_ev l hl k h, hR]
  have h2 : ∀ k, 1048700 < k → impl_TakeWire.f k l = some (s, B, ok) := fun k h => by rw [iTakeWire_ev l hl k (by omega), hR]
  have hto : ∀ k, 1048700 < k → laws_toIntS.f k l = some l := fun k h => toIntS_ev l hl k (by omega)
  have hel : ∀ k, 1048700 < k → laws_eqIntS.f k l l = some true := fun k h => by rw [eqIntS_ev l l (by omega) k (by omega)]; simp
  have hF : ∀ k, 1048700 < k → laws_eqFrame.f k s B s B = some true := fun k h => eqFrame_ev s B (by omega) k (by omega)
  have hh : ∀ k, 1048700 < k → laws_heldFrame.f k s (markL B.length 1) 1 = some (1 + (B.length : Int)) := fun k h => by
    unfold laws_heldFrame.f
    rw [heldIntS_ev B.length 1 (by omega) (by omega) (by omega) k (by omega)]
    simp only [Option.bind_some]
    rw [if_neg (by omega)]
  have hmf : ∀ k, 1048700 < k → laws_markFrame.f k s B 1 = some (1 + (B.length : Int), markL B.length 1) := fun k h => by
    unfold laws_markFrame.f
    rw [markIntSq_ev B 1 (by omega) (by omega) (by omega) k (by omega)]
    rfl
  have hne : (ok != ok) = false := by cases ok <;> rfl
  refine ⟨1048800, ?_⟩
  unfold laws_FnExactTakeWire.f
  rw [if_neg hb, hto _ (by omega)]
  simp only [Option.bind_some]
  rw [h1 _ (by omega)]
  simp only [Option.bind_some]
  rw [h2 _ (by omega)]
  simp only [Option.bind_some]
  rw [hF _ (by omega)]
  simp only [Option.bind_some, if_true, hne, laws_FnExactTakeWire.j0, Bool.false_eq_true, if_false]
  rw [hto _ (by omega)]
  simp only [Option.bind_some]
  rw [hel _ (by omega)]
  simp only [Option.bind_some, if_true]
  rw [markIntS_ev l 1 hl (by omega) (by omega) _ (by omega)]
  simp only [Option.bind_some]
  rw [if_neg (by omega), hF _ (by omega)]
  simp only [Option.bind_some, if_true, hne, laws_FnExactTakeWire.j1, Bool.false_eq_true, if_false]
  rw [hmf _ (by omega)]
  simp only [Option.bind_some]
  rw [hh _ (by omega)]
  simp only [Option.bind_some, if_true]
  rw [if_neg (by omega), hto _ (by omega)]
  simp only [Option.bind_some]
  rw [h2 _ (by omega)]
  simp only [Option.bind_some]
  rw [hF _ (by omega)]
  simp only [Option.bind_some, if_true, hne, laws_FnExactTakeWire.j2, Bool.false_eq_true, if_false]
  rw [hh _ (by omega)]
  simp only [Option.bind_some, if_true]
  rw [if_neg (by omega)]

end Go.Proofs.Ytbmhdlgpglbdnaa.Pure
