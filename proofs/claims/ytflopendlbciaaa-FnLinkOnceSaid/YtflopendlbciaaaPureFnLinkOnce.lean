/- The statement FnLinkOnce over lists: whatever happens, a link stays valid. -/
import Derived.OpenShut
import Derived.Test.YtflopendlbciaaaPFnLinkOncex
import Derived.Test.YtflopendlbciaaaVLists
namespace Go.Proofs.Ytflopendlbciaaa.Pure
set_option linter.unusedVariables false
set_option linter.unusedSimpArgs false
open Go.RowKit Go.Proofs.Ytflopendlbciaaa.PFnLinkOnce Go.Proofs.YtflopendlbciaaaW.PrintWords Go.Proofs.YtflopendlbciaaaW.PrintLast Go.Proofs.YtflopendlbciaaaW.PrintMore Go.Proofs.YtflopendlbciaaaX

/-- A row that is no longer than the law's bound. -/
def SmallE (x : List Int) : Prop := x.length ≤ 1048576

theorem rdL_lt (l : List (List Int)) (i : Nat) (h : i < l.length) : rd_L1 l (i : Int) = l[i] := by
  show l.getD i [] = l[i]
  simp [h]

theorem within_eq (a l m : Int) : impl_within.f a l m = some (decide (l ≤ a ∧ a ≤ m)) := by
  unfold impl_within.f
  by_cases h : a ≥ l
  · have h' : l ≤ a := h
    rw [if_pos h]; simp [h']
  · have h' : ¬ l ≤ a := h
    rw [if_neg h]; simp [h']

theorem any_not {α : Type} (l : List α) (p : α → Bool) : (!l.any fun x => !p x) = l.all p := by
  induction l with
  | nil => rfl
  | cons a l ih => rw [List.any_cons, List.all_cons, Bool.not_or, ih, Bool.not_not]

def byteB (x : Int) : Bool := decide (0 ≤ x ∧ x ≤ 255)

def bytesB (l : List Int) : Bool := l.all byteB && decide (l.length ≤ 40)

theorem notByte_eq (x : Int) : impl_AreBytes_1.f x = some (!byteB x) := by
  unfold impl_AreBytes_1.f impl_isByte.f
  rw [within_eq]
  rfl

theorem cBytes_l0 (l : List (Int)) (hl : l.length ≤ 1048580) (d : Nat) : ∀ i : Nat, i + d = l.length → ∀ k, 0 + d < k → ∃ r, slices_IndexFunc_int_int__impl_AreBytes_1.l0 k l (l.length : Int) (i : Int) = some r ∧ decide (r ≥ 0) = (l.drop i).any (fun x => !byteB x) := by
  induction d with
  | zero =>
    intro i hi k hk
    obtain ⟨k, rfl⟩ : ∃ m, k = m + 1 := ⟨k - 1, by omega⟩
    refine ⟨-1, ?_, ?_⟩
    · simp only [slices_IndexFunc_int_int__impl_AreBytes_1.l0]
      rw [if_neg (show ¬ (i : Int) < (l.length : Int) by omega)]
    · rw [drop_all l i (by omega)]; rfl
  | succ d ih =>
    intro i hi k hk
    obtain ⟨k, rfl⟩ : ∃ m, k = m + 1 := ⟨k - 1, by omega⟩
    have hlt : i < l.length := by omega
    simp only [slices_IndexFunc_int_int__impl_AreBytes_1.l0]
    rw [if_pos (show (i : Int) < (l.length : Int) by omega), if_pos (show (0 : Int) ≤ (i : Int) by omega), if_pos (show (i : Int) < (l.length : Int) by omega), rd_lt l i hlt, notByte_eq l[i]]
    simp only [Option.bind_some]
    by_cases hp : (fun x => !byteB x) l[i] = true
    · rw [if_pos hp]
      exact ⟨_, rfl, by rw [any_drop_yes l i hlt _ hp, decide_eq_true (by omega)]⟩
    · rw [if_neg hp, wrap_succ i (by omega)]
      obtain ⟨r, h1, h2⟩ := ih (i + 1) (by omega) k (by omega)
      exact ⟨r, h1, by rw [h2, any_drop_no l i hlt _ hp]⟩

theorem cBytes_ev (l : List (Int)) (hl : l.length ≤ 1048580) (k : Nat) (hk : 0 + l.length < k) : slices_ContainsFunc_int_int__impl_AreBytes_1.f k l = some (l.any (fun x => !byteB x)) := by
  obtain ⟨r, h1, h2⟩ := cBytes_l0 l hl l.length 0 (by omega) k hk
  unfold slices_ContainsFunc_int_int__impl_AreBytes_1.f slices_IndexFunc_int_int__impl_AreBytes_1.f
  have c0 : ((0 : Nat) : Int) = 0 := rfl
  rw [c0] at h1
  rw [h1]
  simp only [Option.bind_some]
  rw [h2]; rfl

theorem iAreBytes_ev (l : List Int) (k : Nat) (hk : 40 < k) : impl_AreBytes.f k l = some (bytesB l) := by
  unfold impl_AreBytes.f bytesB
  by_cases h : (l.length : Int) ≤ 40
  · rw [if_pos h, cBytes_ev l (by omega) k (by omega)]
    simp only [Option.bind_some]
    rw [any_not, decide_eq_true (show l.length ≤ 40 by omega), Bool.and_true]
  · rw [if_neg h, decide_eq_false (show ¬ l.length ≤ 40 by omega), Bool.and_false]

def seqB (x : Int) : Bool := decide (0 ≤ x ∧ x ≤ 15)

def recB (a : Int) (l : List (List Int)) : Bool := l.all bytesB && (seqB a && decide (l.length ≤ 1000))

theorem iIsSeq_eq (a : Int) : impl_IsSeq.f a = some (seqB a) := by
  unfold impl_IsSeq.f; rw [within_eq]; rfl

theorem notBytes_eq (k : Nat) (hk : 40 < k) (x : List Int) : impl_areLists_1.f k x = some (!bytesB x) := by
  unfold impl_areLists_1.f
  rw [iAreBytes_ev x k hk]
  rfl

theorem cLists_l0 (l : List (List Int)) (hl : l.length ≤ 1048576) (d : Nat) : ∀ i : Nat, i + d = l.length → ∀ k, 41 + d < k → ∃ r, slices_IndexFunc_int_int__impl_areLists_1.l0 k l (l.length : Int) (i : Int) = some r ∧ decide (r ≥ 0) = (l.drop i).any (fun x => !bytesB x) := by
  induction d with
  | zero =>
    intro i hi k hk
    obtain ⟨k, rfl⟩ : ∃ m, k = m + 1 := ⟨k - 1, by omega⟩
    refine ⟨-1, ?_, ?_⟩
    · simp only [slices_IndexFunc_int_int__impl_areLists_1.l0]
      rw [if_neg (show ¬ (i : Int) < (l.length : Int) by omega)]
    · rw [drop_all l i (by omega)]; rfl
  | succ d ih =>
    intro i hi k hk
    obtain ⟨k, rfl⟩ : ∃ m, k = m + 1 := ⟨k - 1, by omega⟩
    have hlt : i < l.length := by omega
    simp only [slices_IndexFunc_int_int__impl_areLists_1.l0]
    rw [if_pos (show (i : Int) < (l.length : Int) by omega), if_pos (show (0 : Int) ≤ (i : Int) by omega), if_pos (show (i : Int) < (l.length : Int) by omega), rdL_lt l i hlt, notBytes_eq k (by omega) l[i]]
    simp only [Option.bind_some]
    by_cases hp : (fun x => !bytesB x) l[i] = true
    · rw [if_pos hp]
      exact ⟨_, rfl, by rw [any_drop_yes l i hlt _ hp, decide_eq_true (by omega)]⟩
    · rw [if_neg hp, wrap_succ i (by omega)]
      obtain ⟨r, h1, h2⟩ := ih (i + 1) (by omega) k (by omega)
      exact ⟨r, h1, by rw [h2, any_drop_no l i hlt _ hp]⟩

theorem cLists_ev (l : List (List Int)) (hl : l.length ≤ 1048576) (k : Nat) (hk : 41 + l.length < k) : slices_ContainsFunc_int_int__impl_areLists_1.f k l = some (l.any (fun x => !bytesB x)) := by
  obtain ⟨r, h1, h2⟩ := cLists_l0 l hl l.length 0 (by omega) k hk
  unfold slices_ContainsFunc_int_int__impl_areLists_1.f slices_IndexFunc_int_int__impl_areLists_1.f
  have c0 : ((0 : Nat) : Int) = 0 := rfl
  rw [c0] at h1
  rw [h1]
  simp only [Option.bind_some]
  rw [h2]; rfl

theorem iAreLists_ev (l : List (List Int)) (hl : l.length ≤ 1048576) (k : Nat) (hk : 1048620 < k) : impl_areLists.f k l = some (l.all bytesB) := by
  unfold impl_areLists.f
  rw [cLists_ev l hl k (by omega)]
  simp only [Option.bind_some]
  rw [any_not]

theorem iReceiverOk_ev (a : Int) (l : List (List Int)) (hl : l.length ≤ 1048576) (k : Nat) (hk : 1048620 < k) : impl_ReceiverOk.f k a l = some (recB a l) := by
  unfold impl_ReceiverOk.f recB
  rw [iIsSeq_eq]
  simp only [Option.bind_some]
  by_cases hs : seqB a = true
  · rw [if_pos hs, hs]
    by_cases h : (l.length : Int) ≤ 1000
    · rw [if_pos h, iAreLists_ev l hl k hk, decide_eq_true (show l.length ≤ 1000 by omega)]
      simp
    · rw [if_neg h, decide_eq_false (show ¬ l.length ≤ 1000 by omega)]
      simp
  · rw [if_neg hs, Bool.eq_false_iff.mpr hs]
    simp

theorem equal_l0 (a b : List Int) (hl : a.length = b.length) (hb : a.length < 9223372036854775807) (d : Nat) : ∀ (i : Nat), i + d = a.length → ∀ k, d < k → slices_Equal_int_int.l0 k a b (((a.length : Nat) : Int)) (i : Int) = some (decide (a.drop i = b.drop i)) := by
  induction d with
  | zero =>
    intro i hi k hk
    obtain ⟨k, rfl⟩ : ∃ m, k = m + 1 := ⟨k - 1, by omega⟩
    simp only [slices_Equal_int_int.l0]
    rw [if_neg (show ¬ (i : Int) < (a.length : Int) by omega), drop_all a i (by omega), drop_all b i (by omega)]
    simp
  | succ d ih =>
    intro i hi k hk
    obtain ⟨k, rfl⟩ : ∃ m, k = m + 1 := ⟨k - 1, by omega⟩
    simp only [slices_Equal_int_int.l0]
    rw [if_pos (show (i : Int) < (a.length : Int) by omega), if_pos (show (0 : Int) ≤ (i : Int) by omega), if_pos (show (i : Int) < (a.length : Int) by omega), if_pos (show (i : Int) < (b.length : Int) by omega)]
    by_cases he : rd a (i : Int) = rd b (i : Int)
    · rw [if_pos he, wrap_succ i (by omega), ih (i + 1) (by omega) k (by omega)]
      congr 1
      rw [decide_eq_decide, drop_eq_iff a b i (by omega) (by omega)]
      exact ⟨fun h => ⟨he, h⟩, fun h => h.2⟩
    · rw [if_neg he]
      congr 1
      symm
      rw [decide_eq_false_iff_not, drop_eq_iff a b i (by omega) (by omega)]
      exact fun h => he h.1

theorem equal_ev (a b : List Int) (hb : a.length < 9223372036854775807) : ∀ k, a.length < k → slices_Equal_int_int.f k a b = some (decide (a = b)) := by
  intro k hk
  unfold slices_Equal_int_int.f
  by_cases hl : a.length = b.length
  · rw [if_pos (by omega)]
    exact equal_l0 a b hl hb a.length 0 (by omega) k hk
  · rw [if_neg (by omega), decide_eq_false (fun h => hl (by rw [h]))]

theorem ofInt_64g (a : Nat) (ha : a < 131072) : (BitVec.ofInt 64 (a : Int)).toNat = a := by
  rw [BitVec.toNat_ofInt]; omega

theorem i64_xor_natg (a b : Nat) (ha : a < 131072) (hb : b < 131072) : Go.bits .xor .i64 (a : Int) (b : Int) = ((a ^^^ b : Nat) : Int) := by
  have hx : a ^^^ b < 2 ^ 17 := Nat.xor_lt_two_pow (by omega) (by omega)
  show IntKind.i64.wrap ((BitVec.ofInt 64 (a : Int) ^^^ BitVec.ofInt 64 (b : Int)).toNat : Int) = _
  rw [BitVec.toNat_xor, ofInt_64g a ha, ofInt_64g b hb, IntKind.wrap_i64]
  omega

theorem xor_small (a b : Int) (ha : 0 ≤ a ∧ a ≤ 65535) (hb : 0 ≤ b ∧ b ≤ 65535) : 0 ≤ Go.bits .xor .i64 a b ∧ Go.bits .xor .i64 a b ≤ 65535 := by
  obtain ⟨x, rfl⟩ := Int.eq_ofNat_of_zero_le ha.1
  obtain ⟨y, rfl⟩ := Int.eq_ofNat_of_zero_le hb.1
  have hx : x ^^^ y < 2 ^ 16 := Nat.xor_lt_two_pow (by omega) (by omega)
  rw [i64_xor_natg x y (by omega) (by omega)]
  omega

theorem xor_top (a : Int) (ha : 65536 ≤ a ∧ a ≤ 131071) : 0 ≤ Go.bits .xor .i64 a 69665 ∧ Go.bits .xor .i64 a 69665 ≤ 65535 := by
  obtain ⟨x, rfl⟩ := Int.eq_ofNat_of_zero_le (show 0 ≤ a by omega)
  have hx : x ^^^ 69665 < 2 ^ 16 := by
    apply Nat.lt_pow_two_of_testBit
    intro i hi
    rw [Nat.testBit_xor]
    by_cases h : i = 16
    · subst h
      have h1 : x.testBit 16 = true := by rw [Nat.testBit_eq_decide_div_mod_eq]; exact decide_eq_true (by omega)
      rw [h1]
      decide
    · have hp : 2 ^ 17 ≤ 2 ^ i := Nat.pow_le_pow_right (by omega) (by omega)
      rw [Nat.testBit_lt_two_pow (show x < 2 ^ i by omega), Nat.testBit_lt_two_pow (show 69665 < 2 ^ i by omega)]
      rfl
  rw [show (69665 : Int) = ((69665 : Nat) : Int) from rfl, i64_xor_natg x 69665 (by omega) (by omega)]
  omega

/-- The check's steps. -/
def ckb : Nat → Int → Int
  | 0, s => s
  | d + 1, s => ckb d (if wrap64 (s * 2) > 65535 then Go.bits .xor .i64 (wrap64 (s * 2)) 69665 else wrap64 (s * 2))

def ck : Int → List Int → Int
  | s, [] => s
  | s, b :: r => ck (ckb 8 (Go.bits .xor .i64 s (wrap64 (b * 256)))) r

theorem ckb_range (d : Nat) : ∀ s : Int, 0 ≤ s ∧ s ≤ 65535 → 0 ≤ ckb d s ∧ ckb d s ≤ 65535 := by
  induction d with
  | zero => intro s h; exact h
  | succ d ih =>
    intro s h
    have hw : wrap64 (s * 2) = s * 2 := wrap_id _ (by omega)
    rw [ckb, hw]
    apply ih
    by_cases h1 : s * 2 > 65535
    · rw [if_pos h1]; exact xor_top _ (by omega)
    · rw [if_neg h1]; omega

theorem ck_range (l : List Int) : ∀ s : Int, 0 ≤ s ∧ s ≤ 65535 → l.all byteB = true → 0 ≤ ck s l ∧ ck s l ≤ 65535 := by
  induction l with
  | nil => intro s h _; exact h
  | cons b r ih =>
    intro s h hb
    rw [List.all_cons, Bool.and_eq_true] at hb
    have hb0 : 0 ≤ b ∧ b ≤ 255 := of_decide_eq_true hb.1
    have hw : wrap64 (b * 256) = b * 256 := wrap_id _ (by omega)
    rw [ck, hw]
    exact ih _ (ckb_range 8 _ (xor_small _ _ h (by omega))) hb.2

theorem iCheck_l1 (l : List Int) (n i : Int) (d : Nat) : ∀ (j : Nat) (s : Int), j + d = 8 → ∀ k, impl_CheckOf.l1 (k + d + 1) s l n i (j : Int) = impl_CheckOf.l0 k (ckb d s) l n (wrap64 (i + 1)) := by
  induction d with
  | zero =>
    intro j s hj k
    simp only [impl_CheckOf.l1]
    rw [if_neg (by omega)]
    rfl
  | succ d ih =>
    intro j s hj k
    rw [show k + (d + 1) + 1 = (k + d + 1) + 1 from rfl]
    simp only [impl_CheckOf.l1]
    rw [if_pos (show (j : Int) < 8 by omega), wrap_succ j (by omega), ckb]
    by_cases h : wrap64 (s * 2) > 65535
    · rw [if_pos h, if_pos h]; exact ih (j + 1) _ (by omega) k
    · rw [if_neg h, if_neg h]; exact ih (j + 1) _ (by omega) k

theorem iCheck_l0 (l : List Int) (hl : l.length ≤ 1048576) (d : Nat) : ∀ (i : Nat) (s : Int), i + d = l.length → ∀ k, 10 * d < k → impl_CheckOf.l0 k s l (l.length : Int) (i : Int) = some (ck s (l.drop i)) := by
  induction d with
  | zero =>
    intro i s hi k hk
    obtain ⟨k, rfl⟩ : ∃ m, k = m + 1 := ⟨k - 1, by omega⟩
    simp only [impl_CheckOf.l0]
    rw [if_neg (by omega), drop_all l i (by omega)]
    rfl
  | succ d ih =>
    intro i s hi k hk
    obtain ⟨k, rfl⟩ : ∃ m, k = m + 8 + 1 + 1 := ⟨k - 10, by omega⟩
    have hlt : i < l.length := by omega
    rw [impl_CheckOf.l0]
    rw [if_pos (by omega), if_pos (by omega), if_pos (by omega), rd_lt l i hlt]
    rw [show (0 : Int) = ((0 : Nat) : Int) from rfl, iCheck_l1 l (l.length : Int) (i : Int) 8 0 _ (by omega) k, wrap_succ i (by omega), ih (i + 1) _ (by omega) k (by omega), drop_cons l i hlt]
    rfl

theorem iCheck_ev (l : List Int) (h : bytesB l = true) (k : Nat) (hk : 1000 < k) : impl_CheckOf.f k l = some (ck 65535 l) := by
  have h40 : l.length ≤ 40 := by unfold bytesB at h; simp at h; exact h.2
  unfold impl_CheckOf.f
  rw [iAreBytes_ev l k (by omega), h]
  simp only [Option.bind_some, if_true]
  exact iCheck_l0 l (by omega) l.length 0 _ (by omega) k (by omega)

theorem clone_ev (l : List Int) (hl : l.length ≤ 1048580) : slices_Clone_int_int.f l = some l := by
  unfold slices_Clone_int_int.f
  simp only [Option.bind_some, List.nil_append, List.length_nil]
  rw [if_pos (by omega)]

/-- Bytes with their check behind them. -/
def addCk (l : List Int) : List Int := l ++ [ck 65535 l / 256, ck 65535 l % 256]

theorem split_ev (c : Int) (h : 0 ≤ c ∧ c ≤ 65535) : impl_SplitWord.f c = some (c / 256, c % 256) := by
  unfold impl_SplitWord.f impl_isWord.f
  rw [within_eq, decide_eq_true h]
  simp only [Option.bind_some, if_true]
  rw [Int.tdiv_eq_ediv_of_nonneg h.1, Int.tmod_eq_emod_of_nonneg h.1, wrap_id _ (by omega)]

theorem bytesB_iff (l : List Int) : bytesB l = true ↔ l.all byteB = true ∧ l.length ≤ 40 := by
  unfold bytesB
  rw [Bool.and_eq_true, decide_eq_true_eq]

theorem iAddCheck_ev (l : List Int) (hl : l.length ≤ 1048580) (k : Nat) (hk : 1100 < k) : impl_AddCheck.f k l = some (if bytesB l = true ∧ l.length ≤ 38 then addCk l else []) := by
  obtain ⟨k, rfl⟩ : ∃ m, k = m + 1 := ⟨k - 1, by omega⟩
  unfold impl_AddCheck.f
  rw [iAreBytes_ev l _ (by omega)]
  simp only [Option.bind_some, impl_AddCheck.j0]
  by_cases hb : bytesB l = true
  · rw [if_pos hb]
    by_cases h38 : (l.length : Int) > 38
    · rw [decide_eq_true h38, if_pos rfl, if_neg (by omega)]
    · have hc := ck_range l 65535 (by omega) ((bytesB_iff l).1 hb).1
      rw [decide_eq_false h38, if_neg (by decide), if_pos ⟨hb, by omega⟩, iCheck_ev l hb _ (by omega)]
      simp only [Option.bind_some]
      rw [split_ev _ hc]
      simp only [Option.bind_some]
      rw [clone_ev l hl]
      simp only [Option.bind_some]
      rw [if_pos (by simp; omega)]
      rfl
  · rw [if_neg hb, if_pos trivial, if_neg (fun h => hb h.1)]

/-- A row of bytes that ends with the check of what stands before. -/
def takeOk (l : List Int) : Prop := 2 ≤ l.length ∧ bytesB l = true ∧ addCk (l.take (l.length - 2)) = l
instance (l : List Int) : Decidable (takeOk l) := by unfold takeOk; infer_instance

def tcR (l : List Int) : List Int × Bool := if takeOk l then (l.take (l.length - 2), true) else ([], false)

theorem bytesB_take (l : List Int) (n : Nat) (h : bytesB l = true) : bytesB (l.take n) = true := by
  rw [bytesB_iff] at h ⊢
  refine ⟨List.all_eq_true.mpr fun x hx => List.all_eq_true.mp h.1 x (List.mem_of_mem_take hx), ?_⟩
  rw [List.length_take]
  omega

theorem iTakeCheck_ev (l : List Int) (hl : l.length ≤ 1048576) (k : Nat) (hk : 1200 < k) : impl_TakeCheck.f k l = some (tcR l) := by
  unfold impl_TakeCheck.f tcR
  have hw : wrap64 ((l.length : Int) - 2) = (l.length : Int) - 2 := wrap_id _ (by omega)
  rw [hw]
  by_cases h2 : (l.length : Int) - 2 < 0
  · rw [if_pos h2, if_neg (fun h => by have := h.1; omega)]
  rw [if_neg h2, iAreBytes_ev l k (by omega)]
  simp only [Option.bind_some]
  by_cases hb : bytesB l = true
  · have hn : ((l.length : Int) - 2).toNat = l.length - 2 := by omega
    have h40 := ((bytesB_iff l).1 hb).2
    rw [if_pos hb, if_pos (by omega), if_pos (by omega), hn, iAddCheck_ev (l.take (l.length - 2)) (by rw [List.length_take]; omega) k (by omega)]
    simp only [Option.bind_some]
    rw [if_pos ⟨bytesB_take l _ hb, by rw [List.length_take]; omega⟩, equal_ev _ _ (by simp only [addCk, List.length_append, List.length_take, List.length_cons, List.length_nil]; omega) k (by simp only [addCk, List.length_append, List.length_take, List.length_cons, List.length_nil]; omega)]
    simp only [Option.bind_some]
    by_cases he : addCk (l.take (l.length - 2)) = l
    · rw [if_pos (decide_eq_true he), clone_ev _ (by rw [List.length_take]; omega), if_pos ⟨by omega, hb, he⟩]
      rfl
    · rw [decide_eq_false he, if_neg (by decide), if_neg (fun h => he h.2.2)]
  · rw [if_neg hb, if_neg (fun h => hb h.2.1)]

def twR (l : List Int) : Int × List Int × Bool := if takeOk l then (match l.take (l.length - 2) with | [] => (0, [], false) | a :: r => if seqB a = true then (a, r, true) else (0, [], false)) else (0, [], false)

theorem iTakeWire_ev (l : List Int) (hl : l.length ≤ 1048576) (k : Nat) (hk : 1200 < k) : impl_TakeWire.f k l = some (twR l) := by
  unfold impl_TakeWire.f twR
  rw [iTakeCheck_ev l hl k hk]
  simp only [Option.bind_some]
  unfold tcR
  by_cases h : takeOk l
  · simp only [if_pos h, if_true]
    generalize l.take (l.length - 2) = m
    cases m with
    | nil => rfl
    | cons a r =>
      have r0 : rd (a :: r) 0 = a := rfl
      have d1 : (a :: r).drop (1 : Int).toNat = r := rfl
      rw [if_neg (by simp only [List.length_cons]; omega), if_pos (by simp only [List.length_cons]; omega), r0, iIsSeq_eq, d1]
      simp only [Option.bind_some]
      by_cases hs : seqB a = true
      · rw [if_pos hs, if_pos (by simp only [List.length_cons]; omega), if_pos hs]
      · rw [if_neg hs, if_neg hs]
  · simp only [if_neg h, if_false]
    rfl

/-- The steps from a sequence number to another. -/
def stepsTo (n x : Int) : Int := if seqB n = true ∧ seqB x = true then (x - n + 16) % 16 else -1

def oldB (n x : Int) : Bool := decide (1 ≤ stepsTo n x ∧ stepsTo n x ≤ 7)

theorem iDist_ev (n x : Int) : impl_SeqDistance.f n x = some (stepsTo n x) := by
  unfold impl_SeqDistance.f stepsTo
  rw [iIsSeq_eq, iIsSeq_eq]
  simp only [Option.bind_some]
  by_cases h1 : seqB n = true
  · by_cases h2 : seqB x = true
    · have g1 : 0 ≤ n ∧ n ≤ 15 := of_decide_eq_true h1
      have g2 : 0 ≤ x ∧ x ≤ 15 := of_decide_eq_true h2
      rw [if_pos h1, if_pos h2, if_pos ⟨h1, h2⟩, wrap_id (x - n) (by omega), wrap_id _ (by omega), Int.tmod_eq_emod_of_nonneg (by omega)]
    · rw [if_pos h1, if_neg h2, if_neg (fun h => h2 h.2)]
  · rw [if_neg h1, if_neg (fun h => h1 h.1)]

theorem iIsOld_ev (n x : Int) : impl_IsOld.f n x = some (oldB n x) := by
  unfold impl_IsOld.f oldB
  rw [iDist_ev]
  simp only [Option.bind_some]
  rw [within_eq]
  rfl

/-- The verdict on a row of bytes. -/
def judR (e : Int) (l : List (List Int)) (w : List Int) : Int := if (twR w).2.2 = true ∧ recB e l = true then if (twR w).1 = e then 0 else if oldB (twR w).1 e = true then 1 else 2 else 3

theorem iJudge_ev (e : Int) (l : List (List Int)) (w : List Int) (hl : l.length ≤ 1048576) (hw : w.length ≤ 1048576) (k : Nat) (hk : 1048700 < k) : impl_Judge.f k e l w = some (judR e l w) := by
  obtain ⟨k, rfl⟩ : ∃ m, k = m + 1 := ⟨k - 1, by omega⟩
  unfold impl_Judge.f judR
  rw [iTakeWire_ev w hw _ (by omega)]
  simp only [Option.bind_some, impl_Judge.j0]
  by_cases h1 : (twR w).2.2 = true
  · rw [if_pos h1, iReceiverOk_ev e l hl _ (by omega)]
    simp only [Option.bind_some]
    by_cases h2 : recB e l = true
    · rw [h2, if_neg (by decide), if_pos (show (twR w).2.2 = true ∧ true = true from ⟨h1, rfl⟩)]
      by_cases h3 : (twR w).1 = e
      · rw [if_pos h3, if_pos h3]
      · rw [if_neg h3, if_neg h3, iIsOld_ev]
        simp only [Option.bind_some]
        by_cases h4 : oldB (twR w).1 e = true
        · rw [if_pos h4, if_pos h4]
        · rw [if_neg h4, if_neg h4]
    · rw [Bool.eq_false_iff.mpr h2, if_pos (by decide), if_neg (show ¬ ((twR w).2.2 = true ∧ false = true) from fun h => by cases h.2)]
  · rw [if_neg h1, if_pos trivial, if_neg (fun h => h1 h.1)]

theorem twR_len (l : List Int) : (twR l).2.1.length ≤ 40 := by
  unfold twR
  by_cases h : takeOk l
  · have h40 := ((bytesB_iff l).1 h.2.1).2
    rw [if_pos h]
    have hm : (l.take (l.length - 2)).length ≤ 40 := by rw [List.length_take]; omega
    generalize l.take (l.length - 2) = m at hm
    cases m with
    | nil => simp
    | cons a r =>
      simp only [List.length_cons] at hm
      by_cases hs : seqB a = true
      · simp only [hs, if_true]; omega
      · simp only [hs]; simp
  · rw [if_neg h]; simp

theorem copyLists_l0 (l : List (List Int)) (hl : l.length ≤ 1048576) (hs : ∀ x ∈ l, SmallE x) (d : Nat) : ∀ i : Nat, i + d = l.length → ∀ k, d < k → impl_copyLists.l0 k (l.take i) l (l.length : Int) (i : Int) = some l := by
  induction d with
  | zero =>
    intro i hi k hk
    obtain ⟨k, rfl⟩ : ∃ m, k = m + 1 := ⟨k - 1, by omega⟩
    simp only [impl_copyLists.l0]
    rw [if_neg (by omega), take_all l i (by omega)]
  | succ d ih =>
    intro i hi k hk
    obtain ⟨k, rfl⟩ : ∃ m, k = m + 1 := ⟨k - 1, by omega⟩
    simp only [impl_copyLists.l0]
    rw [if_pos (by omega), if_pos (by omega), if_pos (by omega), rdL_lt l i (by omega), clone_ev l[i] (Nat.le_trans (show (l[i]).length ≤ 1048576 from hs _ (List.getElem_mem (by omega))) (by omega))]
    simp only [Option.bind_some]
    rw [if_pos (by rw [List.length_take]; omega), ← take_snoc l i (by omega), wrap_succ i (by omega)]
    exact ih (i + 1) (by omega) k (by omega)

theorem copyLists_ev (l : List (List Int)) (hl : l.length ≤ 1048576) (hs : ∀ x ∈ l, SmallE x) (k : Nat) (hk : l.length < k) : impl_copyLists.f k l = some l := by
  unfold impl_copyLists.f
  exact copyLists_l0 l hl hs l.length 0 (by omega) k hk

def nxE (a : Int) : Int := if seqB a = true then Int.tmod (wrap64 (a + 1)) 16 else -1

theorem iNext_ev (a : Int) : impl_NextSeq.f a = some (nxE a) := by
  unfold impl_NextSeq.f nxE
  rw [iIsSeq_eq]
  simp only [Option.bind_some]
  by_cases h : seqB a = true
  · rw [if_pos h, if_pos h]
  · rw [if_neg h, if_neg h]

theorem iCopyR_ev (a : Int) (l : List (List Int)) (hl : l.length ≤ 1048576) (he : ∀ x ∈ l, SmallE x) (k : Nat) (hk : 2097160 < k) : impl_copyReceiver.f k a l = some (a, l) := by
  unfold impl_copyReceiver.f
  rw [copyLists_ev l hl he k (by omega)]
  rfl

def tfR (a : Int) (l : List (List Int)) (w : List Int) : Int × List (List Int) × Int := if judR a l w = 0 then (if (l.length : Int) = 1000 then (a, l, 2) else (nxE a, l ++ [(twR w).2.1], 0)) else (a, l, judR a l w)

theorem iTake_ev (a : Int) (l : List (List Int)) (w : List Int) (hl : l.length ≤ 1048576) (hw : w.length ≤ 1048576) (he : ∀ x ∈ l, SmallE x) (k : Nat) (hk : 2097300 < k) : impl_TakeFrame.f k a l w = some (tfR a l w) := by
  unfold impl_TakeFrame.f tfR
  rw [iCopyR_ev a l hl he k (by omega)]
  simp only [Option.bind_some]
  rw [iJudge_ev a l w hl hw k (by omega)]
  simp only [Option.bind_some]
  have h40 := twR_len w
  by_cases h : judR a l w = 0
  · rw [if_pos h, if_pos h]
    by_cases h2 : (l.length : Int) = 1000
    · rw [if_pos h2, if_pos h2]
    · rw [if_neg h2, if_neg h2, iTakeWire_ev w hw k (by omega)]
      simp only [Option.bind_some]
      rw [clone_ev _ (by omega)]
      simp only [Option.bind_some]
      rw [if_pos (by omega), iNext_ev]
      rfl
  · rw [if_neg h, if_neg h]

def SmallG (x : S68) : Prop := x.f1.length ≤ 1048576

theorem rdG_lt (l : List (S68)) (i : Nat) (h : i < l.length) : rd_T68 l (i : Int) = l[i] := by
  show l.getD i z68 = l[i]
  simp [h]

/-- How far the second number stands behind the first, round the ring; -1 where one is none. -/
def sdI (a b : Int) : Int := if seqB a = true then (if seqB b = true then Int.tmod (wrap64 ((wrap64 (b - a)) + 16)) 16 else -1) else -1

theorem iSeqDist_eq (a b : Int) : impl_SeqDistance.f a b = some (sdI a b) := by
  unfold impl_SeqDistance.f sdI
  rw [iIsSeq_eq, iIsSeq_eq]
  cases seqB a <;> cases seqB b <;> rfl

def frOk (s : Int) (n : Nat) : Nat → List S68 → Bool
  | _, [] => true
  | i, x :: r => decide (sdI x.f0 s = wrap64 ((n : Int) - (i : Int))) && (bytesB x.f1 && frOk s n (i + 1) r)

def sndB (s : Int) (l : List S68) (r : Int) : Bool := seqB s && (decide (l.length ≤ 7) && (decide (0 ≤ r ∧ r ≤ (l.length : Int)) && frOk s l.length 0 l))

theorem impl_frames (s : Int) (l : List S68) (r : Int) (hl : l.length ≤ 7) (hs : ∀ x ∈ l, SmallG x) (d : Nat) : ∀ i : Nat, i + d = l.length → ∀ k, 1048600 + d < k → impl_SenderOk.l0 k (l.length : Int) l (l.length : Int) (i : Int) s l r = some (frOk s l.length i (l.drop i)) := by
  induction d with
  | zero =>
    intro i hi k hk
    obtain ⟨k, rfl⟩ : ∃ m, k = m + 1 := ⟨k - 1, by omega⟩
    simp only [impl_SenderOk.l0]
    rw [if_neg (show ¬ (i : Int) < (l.length : Int) by omega), drop_all l i (by omega)]
    rfl
  | succ d ih =>
    intro i hi k hk
    obtain ⟨k, rfl⟩ : ∃ m, k = m + 1 := ⟨k - 1, by omega⟩
    have hlt : i < l.length := by omega
    have hsm := hs _ (List.getElem_mem hlt)
    unfold SmallG at hsm
    have ih := ih (i + 1) (by omega) k (by omega)
    simp only [impl_SenderOk.l0]
    rw [if_pos (show (i : Int) < (l.length : Int) by omega), if_pos (show (0 : Int) ≤ (i : Int) by omega), if_pos (show (i : Int) < (l.length : Int) by omega), rdG_lt l i hlt, iSeqDist_eq, drop_cons l i hlt]
    simp only [Option.bind_some, frOk]
    by_cases hd : sdI l[i].f0 s = wrap64 ((l.length : Int) - (i : Int))
    · rw [if_pos hd, decide_eq_true hd, iAreBytes_ev l[i].f1 k (by omega)]
      simp only [Option.bind_some]
      by_cases hb : bytesB l[i].f1 = true
      · rw [if_pos hb, hb, wrap_succ i (by omega), ih]
        rfl
      · rw [if_neg hb, Bool.eq_false_iff.mpr hb]
        rfl
    · rw [if_neg hd, decide_eq_false hd]
      rfl

theorem iSenderOk_ev (s : Int) (l : List S68) (r : Int) (hs : ∀ x ∈ l, SmallG x) (k : Nat) (hk : 1048700 < k) : impl_SenderOk.f k s l r = some (sndB s l r) := by
  obtain ⟨k, rfl⟩ : ∃ m, k = m + 1 := ⟨k - 1, by omega⟩
  unfold impl_SenderOk.f sndB
  rw [iIsSeq_eq]
  simp only [Option.bind_some]
  by_cases h1 : seqB s = true
  · rw [if_pos h1, h1]
    by_cases h2 : l.length ≤ 7
    · rw [if_neg (by omega), within_eq, decide_eq_true h2]
      simp only [Option.bind_some, impl_SenderOk.j0]
      by_cases h3 : 0 ≤ r ∧ r ≤ (l.length : Int)
      · rw [decide_eq_true h3, if_neg (by decide)]
        have h := impl_frames s l r h2 hs l.length 0 (by omega) k (by omega)
        have c0 : ((0 : Nat) : Int) = 0 := rfl
        rw [c0] at h
        rw [h]
        rfl
      · rw [decide_eq_false h3, if_pos (by decide)]
        rfl
    · rw [if_pos (by omega), decide_eq_false h2]
      simp only [impl_SenderOk.j0]
      rfl
  · rw [if_neg h1, Bool.eq_false_iff.mpr h1]
    simp only [impl_SenderOk.j0]
    rfl

def ackB (v : Int) : Bool := seqB v || decide (100 ≤ v ∧ v ≤ 115)

def lnkB (s : Int) (l : List S68) (r e : Int) (h w : List (List Int)) (a : List Int) : Bool := sndB s l r && (recB e h && (decide (w.length ≤ 8) && (decide (a.length ≤ 8) && (w.all bytesB && a.all ackB))))

theorem notAck_eq (v : Int) : impl_LinkOk_1.f v = some (!ackB v) := by
  unfold impl_LinkOk_1.f ackB
  rw [iIsSeq_eq, within_eq]
  cases seqB v <;> rfl

theorem cAcks_l0 (l : List (Int)) (hl : l.length ≤ 1048576) (d : Nat) : ∀ i : Nat, i + d = l.length → ∀ k, 0 + d < k → ∃ r, slices_IndexFunc_int_int__impl_LinkOk_1.l0 k l (l.length : Int) (i : Int) = some r ∧ decide (r ≥ 0) = (l.drop i).any (fun x => !ackB x) := by
  induction d with
  | zero =>
    intro i hi k hk
    obtain ⟨k, rfl⟩ : ∃ m, k = m + 1 := ⟨k - 1, by omega⟩
    refine ⟨-1, ?_, ?_⟩
    · simp only [slices_IndexFunc_int_int__impl_LinkOk_1.l0]
      rw [if_neg (show ¬ (i : Int) < (l.length : Int) by omega)]
    · rw [drop_all l i (by omega)]; rfl
  | succ d ih =>
    intro i hi k hk
    obtain ⟨k, rfl⟩ : ∃ m, k = m + 1 := ⟨k - 1, by omega⟩
    have hlt : i < l.length := by omega
    simp only [slices_IndexFunc_int_int__impl_LinkOk_1.l0]
    rw [if_pos (show (i : Int) < (l.length : Int) by omega), if_pos (show (0 : Int) ≤ (i : Int) by omega), if_pos (show (i : Int) < (l.length : Int) by omega), rd_lt l i hlt, notAck_eq l[i]]
    simp only [Option.bind_some]
    by_cases hp : (fun x => !ackB x) l[i] = true
    · rw [if_pos hp]
      exact ⟨_, rfl, by rw [any_drop_yes l i hlt _ hp, decide_eq_true (by omega)]⟩
    · rw [if_neg hp, wrap_succ i (by omega)]
      obtain ⟨r, h1, h2⟩ := ih (i + 1) (by omega) k (by omega)
      exact ⟨r, h1, by rw [h2, any_drop_no l i hlt _ hp]⟩

theorem cAcks_ev (l : List (Int)) (hl : l.length ≤ 1048576) (k : Nat) (hk : 0 + l.length < k) : slices_ContainsFunc_int_int__impl_LinkOk_1.f k l = some (l.any (fun x => !ackB x)) := by
  obtain ⟨r, h1, h2⟩ := cAcks_l0 l hl l.length 0 (by omega) k hk
  unfold slices_ContainsFunc_int_int__impl_LinkOk_1.f slices_IndexFunc_int_int__impl_LinkOk_1.f
  have c0 : ((0 : Nat) : Int) = 0 := rfl
  rw [c0] at h1
  rw [h1]
  simp only [Option.bind_some]
  rw [h2]; rfl

theorem iLinkOk_ev (s : Int) (f : List S68) (r e : Int) (h w : List (List Int)) (a : List Int) (hf : ∀ x ∈ f, SmallG x) (hh : h.length ≤ 1048576) (hw : w.length ≤ 1048576) (k : Nat) (hk : 2097200 < k) : impl_LinkOk.f k s f r e h w a = some (lnkB s f r e h w a) := by
  unfold impl_LinkOk.f lnkB
  rw [iSenderOk_ev s f r hf k (by omega), iReceiverOk_ev e h hh k (by omega), iAreLists_ev w hw k (by omega)]
  simp only [Option.bind_some]
  cases sndB s f r
  · rfl
  cases recB e h
  · rfl
  by_cases h1 : w.length ≤ 8
  · by_cases h2 : a.length ≤ 8
    · rw [if_pos rfl, if_pos rfl, if_pos (show (w.length : Int) ≤ 8 by omega), if_pos (show (a.length : Int) ≤ 8 by omega), cAcks_ev a (by omega) k (by omega), decide_eq_true h1, decide_eq_true h2]
      simp only [Option.bind_some]
      rw [any_not]
      cases w.all bytesB <;> rfl
    · rw [if_pos rfl, if_pos rfl, if_pos (show (w.length : Int) ≤ 8 by omega), if_neg (show ¬ (a.length : Int) ≤ 8 by omega), decide_eq_true h1, decide_eq_false h2]
      cases w.all bytesB <;> rfl
  · rw [if_pos rfl, if_pos rfl, if_neg (show ¬ (w.length : Int) ≤ 8 by omega), decide_eq_false h1]
    cases w.all bytesB <;> rfl

/-! ### A sender, a link that are valid, told place by place -/
def SO (s : Int) (f : List S68) (r : Int) : Prop := (0 ≤ s ∧ s ≤ 15) ∧ f.length ≤ 7 ∧ (0 ≤ r ∧ r ≤ (f.length : Int)) ∧ ∀ (j : Nat) (x : S68), f[j]? = some x → (0 ≤ x.f0 ∧ x.f0 ≤ 15) ∧ (s - x.f0 + 16) % 16 = (f.length : Int) - (j : Int) ∧ bytesB x.f1 = true
def RO (e : Int) (h : List (List Int)) : Prop := (0 ≤ e ∧ e ≤ 15) ∧ h.length ≤ 1000 ∧ ∀ x ∈ h, bytesB x = true
def LK (s : Int) (f : List S68) (r e : Int) (h w : List (List Int)) (a : List Int) : Prop := SO s f r ∧ RO e h ∧ w.length ≤ 8 ∧ (∀ x ∈ w, bytesB x = true) ∧ a.length ≤ 8 ∧ ∀ v ∈ a, (0 ≤ v ∧ v ≤ 15) ∨ (100 ≤ v ∧ v ≤ 115)
theorem seq_iff (x : Int) : seqB x = true ↔ 0 ≤ x ∧ x ≤ 15 := by unfold seqB; exact decide_eq_true_iff
theorem sd_at (a b d : Int) (hd : 1 ≤ d) : sdI a b = d ↔ (0 ≤ a ∧ a ≤ 15) ∧ (0 ≤ b ∧ b ≤ 15) ∧ (b - a + 16) % 16 = d := by
  unfold sdI
  by_cases ha : seqB a = true
  · rw [if_pos ha]
    have ha' := (seq_iff a).mp ha
    by_cases hb : seqB b = true
    · rw [if_pos hb]
      have hb' := (seq_iff b).mp hb
      rw [wrap_id (b - a) (by omega), wrap_id (b - a + 16) (by omega), Int.tmod_eq_emod_of_nonneg (by omega)]
      exact ⟨fun h => ⟨ha', hb', h⟩, fun h => h.2.2⟩
    · rw [if_neg hb]
      exact ⟨fun h => by omega, fun h => absurd ((seq_iff b).mpr h.2.1) hb⟩
  · rw [if_neg ha]
    exact ⟨fun h => by omega, fun h => absurd ((seq_iff a).mpr h.1) ha⟩
theorem fr_iff (s : Int) (n : Nat) (hn : n ≤ 7) (hs : 0 ≤ s ∧ s ≤ 15) (l : List S68) : ∀ i : Nat, i + l.length = n → (frOk s n i l = true ↔ ∀ (j : Nat) (x : S68), l[j]? = some x → (0 ≤ x.f0 ∧ x.f0 ≤ 15) ∧ (s - x.f0 + 16) % 16 = (n : Int) - ((i + j : Nat) : Int) ∧ bytesB x.f1 = true) := by
  induction l with
  | nil => intro i _; exact ⟨fun _ j x h => by simp at h, fun _ => rfl⟩
  | cons y l ih =>
    intro i hi
    rw [List.length_cons] at hi
    have h1 := ih (i + 1) (by omega)
    have hw : wrap64 ((n : Int) - (i : Int)) = (n : Int) - (i : Int) := wrap_id _ (by omega)
    have hsd := sd_at y.f0 s ((n : Int) - (i : Int)) (by omega)
    simp only [frOk, Bool.and_eq_true, decide_eq_true_eq, hw, h1, hsd]
    constructor
    · rintro ⟨⟨g1, _, g2⟩, g3, g4⟩ j x hx
      cases j with
      | zero => rw [List.getElem?_cons_zero] at hx; cases hx; exact ⟨g1, by rw [g2]; omega, g3⟩
      | succ j =>
        rw [List.getElem?_cons_succ] at hx
        have := g4 j x hx
        exact ⟨this.1, by rw [this.2.1]; omega, this.2.2⟩
    · intro h
      have h0 := h 0 y rfl
      refine ⟨⟨h0.1, hs, by rw [h0.2.1]; omega⟩, h0.2.2, fun j x hx => ?_⟩
      have := h (j + 1) x (by rw [List.getElem?_cons_succ]; exact hx)
      exact ⟨this.1, by rw [this.2.1]; omega, this.2.2⟩
theorem so_iff (s : Int) (f : List S68) (r : Int) : sndB s f r = true ↔ SO s f r := by
  unfold sndB SO
  simp only [Bool.and_eq_true, decide_eq_true_eq, seq_iff]
  constructor
  · rintro ⟨h1, h2, h3, h4⟩
    have h5 := (fr_iff s f.length h2 h1 f 0 (by omega)).mp h4
    exact ⟨h1, h2, h3, fun j x hx => by have := h5 j x hx; exact ⟨this.1, by rw [this.2.1]; omega, this.2.2⟩⟩
  · rintro ⟨h1, h2, h3, h4⟩
    exact ⟨h1, h2, h3, (fr_iff s f.length h2 h1 f 0 (by omega)).mpr (fun j x hx => by have := h4 j x hx; exact ⟨this.1, by rw [this.2.1]; omega, this.2.2⟩)⟩
theorem ro_iff (e : Int) (h : List (List Int)) : recB e h = true ↔ RO e h := by
  unfold recB RO
  simp only [Bool.and_eq_true, decide_eq_true_eq, seq_iff, List.all_eq_true]
  exact ⟨fun h => ⟨h.2.1, h.2.2, h.1⟩, fun h => ⟨h.2.2, h.1, h.2.1⟩⟩
theorem lk_iff (s : Int) (f : List S68) (r e : Int) (h w : List (List Int)) (a : List Int) : lnkB s f r e h w a = true ↔ LK s f r e h w a := by
  unfold lnkB LK
  simp only [Bool.and_eq_true, decide_eq_true_eq, so_iff, ro_iff, List.all_eq_true, ackB, Bool.or_eq_true, seq_iff]
  exact ⟨fun ⟨a, b, c, d, e, f⟩ => ⟨a, b, c, e, d, f⟩, fun ⟨a, b, c, d, e, f⟩ => ⟨a, b, c, e, d, f⟩⟩
theorem bytes_small {x : List Int} (h : bytesB x = true) : x.length ≤ 40 := ((bytesB_iff x).mp h).2
theorem so_small {s : Int} {f : List S68} {r : Int} (h : SO s f r) : ∀ x ∈ f, SmallG x := by
  intro x hx
  obtain ⟨j, hj⟩ := List.getElem?_of_mem hx
  have := bytes_small (h.2.2.2 j x hj).2.2
  unfold SmallG; omega
theorem rows_small {l : List (List Int)} (h : ∀ x ∈ l, bytesB x = true) : ∀ x ∈ l, SmallE x := by
  intro x hx
  have := bytes_small (h x hx)
  unfold SmallE; omega
/-! ### Copies -/
theorem copyFrame_ev (s : Int) (l : List Int) (hl : l.length ≤ 1048576) : impl_copyFrame.f s l = some (s, l) := by
  unfold impl_copyFrame.f
  rw [clone_ev l (by omega)]
  rfl
theorem copyS_l0 (s r : Int) (f : List S68) (hl : f.length ≤ 1048576) (hs : ∀ x ∈ f, SmallG x) (d : Nat) : ∀ i : Nat, i + d = f.length → ∀ k, d < k → impl_copySender.l0 k f (f.length : Int) (i : Int) s (f.take i) r = some (s, f, r) := by
  induction d with
  | zero =>
    intro i hi k hk
    obtain ⟨k, rfl⟩ : ∃ m, k = m + 1 := ⟨k - 1, by omega⟩
    simp only [impl_copySender.l0]
    rw [if_neg (by omega), take_all f i (by omega)]
  | succ d ih =>
    intro i hi k hk
    obtain ⟨k, rfl⟩ : ∃ m, k = m + 1 := ⟨k - 1, by omega⟩
    have hlt : i < f.length := by omega
    have hsm := hs _ (List.getElem_mem hlt)
    unfold SmallG at hsm
    simp only [impl_copySender.l0]
    rw [if_pos (by omega), if_pos (by omega), if_pos (by omega), rdG_lt f i hlt, copyFrame_ev _ _ hsm]
    simp only [Option.bind_some]
    rw [if_pos (by rw [List.length_take]; omega), wrap_succ i (by omega), show f.take i ++ [(⟨f[i].f0, f[i].f1⟩ : S68)] = f.take (i + 1) from (take_snoc f i hlt).symm]
    exact ih (i + 1) (by omega) k (by omega)
theorem copyS_ev (s : Int) (f : List S68) (r : Int) (hl : f.length ≤ 1048576) (hs : ∀ x ∈ f, SmallG x) (k : Nat) (hk : 1048576 < k) : impl_copySender.f k s f r = some (s, f, r) := copyS_l0 s r f hl hs f.length 0 (by omega) k (by omega)
theorem copyL_ev {s : Int} {f : List S68} {r e : Int} {h w : List (List Int)} {a : List Int} (H : LK s f r e h w a) (k : Nat) (hk : 3000000 < k) : impl_copyLink.f k s f r e h w a = some (s, f, r, e, h, w, a) := by
  obtain ⟨h1, h2, h3, h4, h5, _⟩ := H
  unfold impl_copyLink.f
  rw [copyS_ev s f r (by have := h1.2.1; omega) (so_small h1) k (by omega)]
  simp only [Option.bind_some]
  rw [iCopyR_ev e h (by have := h2.2.1; omega) (rows_small h2.2.2) k (by omega)]
  simp only [Option.bind_some]
  rw [copyLists_ev w (by omega) (rows_small h4) k (by omega)]
  simp only [Option.bind_some]
  rw [clone_ev a (by omega)]
  rfl
theorem so_ev {s : Int} {f : List S68} {r : Int} (H : SO s f r) (k : Nat) (hk : 3000000 < k) : impl_SenderOk.f k s f r = some true := by
  rw [iSenderOk_ev s f r (so_small H) k (by omega), (so_iff s f r).mpr H]
theorem lkOk_ev {s : Int} {f : List S68} {r e : Int} {h w : List (List Int)} {a : List Int} (H : LK s f r e h w a) (k : Nat) (hk : 3000000 < k) : impl_LinkOk.f k s f r e h w a = some true := by
  rw [iLinkOk_ev s f r e h w a (so_small H.1) (by have := H.2.1.2.1; omega) (by have := H.2.2.1; omega) k (by omega), (lk_iff s f r e h w a).mpr H]
/-! ### The sender's functions -/
theorem nx_ev (s : Int) (h : 0 ≤ s ∧ s ≤ 15) : nxE s = (s + 1) % 16 := by
  unfold nxE
  rw [if_pos ((seq_iff s).mpr h), wrap_id _ (by omega), Int.tmod_eq_emod_of_nonneg (by omega)]
theorem queue_ok {s : Int} {f : List S68} {r : Int} (H : SO s f r) (b : List Int) (k : Nat) (hk : 3000000 < k) : ∃ s' f' r' o, impl_QueueFrame.f k s f r b = some (s', f', r', o) ∧ SO s' f' r' := by
  unfold impl_QueueFrame.f
  rw [copyS_ev s f r (by have := H.2.1; omega) (so_small H) k (by omega)]
  simp only [Option.bind_some]
  rw [so_ev H k hk]
  simp only [Option.bind_some]
  rw [if_pos (by trivial), iAreBytes_ev b k (by omega)]
  simp only [Option.bind_some]
  by_cases hb : bytesB b = true
  case neg => rw [if_neg hb]; exact ⟨_, _, _, _, rfl, H⟩
  rw [if_pos hb]
  by_cases h7 : (f.length : Int) = 7
  · rw [if_pos h7]; exact ⟨_, _, _, _, rfl, H⟩
  rw [if_neg h7, clone_ev b (by have := bytes_small hb; omega)]
  simp only [Option.bind_some]
  obtain ⟨h1, h2, h3, h4⟩ := H
  rw [if_pos (by omega), iNext_ev, nx_ev s h1]
  simp only [Option.bind_some]
  refine ⟨_, _, _, _, rfl, by omega, by rw [List.length_append, List.length_singleton]; omega, by rw [List.length_append, List.length_singleton]; omega, fun j x hx => ?_⟩
  rw [List.length_append, List.length_singleton]
  rcases Nat.lt_or_ge j f.length with hj | hj
  · rw [List.getElem?_append_left hj] at hx
    have := h4 j x hx
    exact ⟨this.1, by have h5 := this.2.1; have h6 := this.1; omega, this.2.2⟩
  · rw [List.getElem?_append_right hj] at hx
    have hj0 : j = f.length := by
      rcases Nat.eq_zero_or_pos (j - f.length) with h | h
      · omega
      · rw [List.getElem?_eq_none (by simp; omega)] at hx; cases hx
    subst hj0
    rw [Nat.sub_self] at hx
    cases hx
    exact ⟨h1, by show ((s + 1) % 16 - s + 16) % 16 = _; omega, hb⟩
theorem replay_ok {s : Int} {f : List S68} {r : Int} (H : SO s f r) (k : Nat) (hk : 3000000 < k) : impl_Replay.f k s f r = some (s, f, 0) ∧ SO s f 0 := by
  unfold impl_Replay.f
  rw [copyS_ev s f r (by have := H.2.1; omega) (so_small H) k (by omega)]
  simp only [Option.bind_some]
  rw [so_ev H k hk]
  simp only [Option.bind_some]
  exact ⟨by rw [if_pos (by trivial)], H.1, H.2.1, by omega, H.2.2.2⟩
theorem ready_ok {s : Int} {f : List S68} {r : Int} (H : SO s f r) (k : Nat) (hk : 3000000 < k) : (∃ s' f' r' q b, impl_TakeReady.f k s f r = some (s', f', r', q, b, false)) ∨ (∃ q b, impl_TakeReady.f k s f r = some (s, f, r + 1, q, b, true) ∧ SO s f (r + 1) ∧ (0 ≤ q ∧ q ≤ 15) ∧ bytesB b = true) := by
  unfold impl_TakeReady.f
  rw [copyS_ev s f r (by have := H.2.1; omega) (so_small H) k (by omega)]
  simp only [Option.bind_some]
  rw [so_ev H k hk]
  simp only [Option.bind_some]
  rw [if_pos (by trivial)]
  by_cases hr : r = (f.length : Int)
  · rw [if_pos hr]; exact .inl ⟨_, _, _, _, _, rfl⟩
  obtain ⟨h1, h2, h3, h4⟩ := H
  rw [if_neg hr, if_pos h3.1, if_pos (by omega)]
  obtain ⟨m, rfl⟩ : ∃ m : Nat, r = (m : Int) := ⟨r.toNat, by omega⟩
  have hm : m < f.length := by omega
  have hx := h4 m f[m] (List.getElem?_eq_getElem hm)
  rw [rdG_lt f m hm, copyFrame_ev _ _ (by have := bytes_small hx.2.2; omega)]
  simp only [Option.bind_some]
  rw [wrap_id _ (by omega)]
  exact .inr ⟨_, _, rfl, ⟨h1, h2, by omega, h4⟩, hx.1, hx.2.2⟩
theorem ix_l0 (f : List S68) (q : Int) (hl : f.length ≤ 7) (d : Nat) : ∀ i : Nat, i + d = f.length → ∀ k, d < k → ∃ z, impl_TakeAck_ix.l0 k f q (f.length : Int) (i : Int) = some z ∧ (z < 0 ∨ (0 ≤ z ∧ z < (f.length : Int))) := by
  induction d with
  | zero =>
    intro i hi k hk
    obtain ⟨k, rfl⟩ : ∃ m, k = m + 1 := ⟨k - 1, by omega⟩
    simp only [impl_TakeAck_ix.l0]
    rw [if_neg (by omega)]
    exact ⟨_, rfl, .inl (by omega)⟩
  | succ d ih =>
    intro i hi k hk
    obtain ⟨k, rfl⟩ : ∃ m, k = m + 1 := ⟨k - 1, by omega⟩
    simp only [impl_TakeAck_ix.l0]
    rw [if_pos (by omega), if_pos (by omega), if_pos (by omega)]
    by_cases hq : (rd_T68 f (i : Int)).f0 = q
    · rw [if_pos hq]; exact ⟨_, rfl, .inr (by omega)⟩
    · rw [if_neg hq, wrap_succ i (by omega)]
      exact ih (i + 1) (by omega) k (by omega)
theorem ack_ok {s : Int} {f : List S68} {r : Int} (H : SO s f r) (q : Int) (k : Nat) (hk : 3000000 < k) : ∃ s' f' r' o, impl_TakeAck.f k s f r q = some (s', f', r', o) ∧ SO s' f' r' := by
  unfold impl_TakeAck.f
  rw [copyS_ev s f r (by have := H.2.1; omega) (so_small H) k (by omega)]
  simp only [Option.bind_some]
  obtain ⟨z, e1, hz⟩ := ix_l0 f q H.2.1 f.length 0 (by omega) k (by have := H.2.1; omega)
  rw [show impl_TakeAck_ix.f k f q = some z from e1]
  simp only [Option.bind_some]
  rw [so_ev H k hk]
  simp only [Option.bind_some]
  rw [if_pos (by trivial)]
  obtain ⟨h1, h2, h3, h4⟩ := H
  rcases hz with hz | hz
  · rw [if_pos hz]; exact ⟨_, _, _, _, rfl, h1, h2, h3, h4⟩
  · rw [if_neg (by omega), if_pos hz.1, if_pos hz.2, if_pos (by omega)]
    obtain ⟨m, rfl⟩ : ∃ m : Nat, z = (m : Int) := ⟨z.toNat, by omega⟩
    rw [wrap_id (r - (m : Int)) (by omega), wrap_id (r - (m : Int) - 1) (by omega), Int.toNat_natCast]
    refine ⟨_, _, _, _, rfl, h1, by rw [List.length_drop]; omega, by rw [List.length_drop]; unfold mx; split <;> omega, fun j x hx => ?_⟩
    rw [List.getElem?_drop] at hx
    have := h4 _ x hx
    rw [List.length_drop]
    exact ⟨this.1, by rw [this.2.1]; omega, this.2.2⟩
/-! ### The wire -/
theorem bytes_app {x y : List Int} (h1 : x.all byteB = true) (h2 : y.all byteB = true) (h3 : x.length + y.length ≤ 40) : bytesB (x ++ y) = true := by
  rw [bytesB_iff, List.all_append, h1, h2, List.length_append]
  exact ⟨rfl, h3⟩
theorem byte_iff (x : Int) : byteB x = true ↔ 0 ≤ x ∧ x ≤ 255 := by unfold byteB; exact decide_eq_true_iff
theorem wire_ok (q : Int) (b : List Int) (hq : 0 ≤ q ∧ q ≤ 15) (hb : bytesB b = true) (k : Nat) (hk : 3000000 < k) : ∃ y, impl_WireFrame.f k q b = some y ∧ bytesB y = true := by
  have hl := bytes_small hb
  unfold impl_WireFrame.f
  rw [iIsSeq_eq, (seq_iff q).mpr hq]
  simp only [Option.bind_some]
  rw [if_pos (by trivial), if_pos (by simp; omega), iAddCheck_ev ([q] ++ b) (by simp; omega) k (by omega)]
  simp only [Option.bind_some]
  refine ⟨_, rfl, ?_⟩
  by_cases h : bytesB ([q] ++ b) = true ∧ ([q] ++ b).length ≤ 38
  · rw [if_pos h]
    have h1 := (bytesB_iff _).mp h.1
    have h2 := ck_range ([q] ++ b) 65535 (by omega) h1.1
    unfold addCk
    exact bytes_app h1.1 (by simp only [List.all_cons, List.all_nil, Bool.and_true, Bool.and_eq_true, byte_iff]; omega) (by simp only [List.length_cons, List.length_nil]; omega)
  · rw [if_neg h]; rfl
theorem tw_bytes (l : List Int) : bytesB (twR l).2.1 = true := by
  unfold twR
  by_cases h : takeOk l
  · rw [if_pos h]
    have h1 : bytesB (l.take (l.length - 2)) = true := bytesB_take l _ h.2.1
    cases e1 : l.take (l.length - 2) with
    | nil => rfl
    | cons a r =>
      rw [e1, bytesB_iff, List.all_cons, Bool.and_eq_true, List.length_cons] at h1
      show bytesB (if seqB a = true then (a, r, true) else (0, [], false)).2.1 = true
      by_cases hs : seqB a = true
      · rw [if_pos hs]; exact (bytesB_iff r).mpr ⟨h1.1.2, by omega⟩
      · rw [if_neg hs]; rfl
  · rw [if_neg h]; rfl
theorem take_ok {e : Int} {h : List (List Int)} (H : RO e h) (w : List Int) (hw : w.length ≤ 1048576) (k : Nat) (hk : 3000000 < k) : ∃ e' h' v, impl_TakeFrame.f k e h w = some (e', h', v) ∧ RO e' h' := by
  rw [iTake_ev e h w (by have := H.2.1; omega) hw (rows_small H.2.2) k (by omega)]
  unfold tfR
  by_cases h0 : judR e h w = 0
  · rw [if_pos h0]
    by_cases h1 : (h.length : Int) = 1000
    · rw [if_pos h1]; exact ⟨_, _, _, rfl, H⟩
    · rw [if_neg h1]
      refine ⟨_, _, _, rfl, by rw [nx_ev e H.1]; omega, by rw [List.length_append, List.length_singleton]; have := H.2.1; omega, fun x hx => ?_⟩
      rw [List.mem_append, List.mem_singleton] at hx
      rcases hx with hx | rfl
      · exact H.2.2 x hx
      · exact tw_bytes w
  · rw [if_neg h0]; exact ⟨_, _, _, rfl, H⟩
theorem ackOf_ok {e : Int} {h : List (List Int)} (H : RO e h) (k : Nat) (hk : 3000000 < k) : ∃ n, impl_AckOf.f k e h = some n ∧ 0 ≤ n ∧ n ≤ 15 := by
  unfold impl_AckOf.f
  rw [iReceiverOk_ev e h (by have := H.2.1; omega) k (by omega), (ro_iff e h).mpr H]
  simp only [Option.bind_some]
  have := H.1
  rw [if_pos (by trivial), wrap_id (e + 16) (by omega), wrap_id (e + 16 - 1) (by omega), Int.tmod_eq_emod_of_nonneg (by omega)]
  exact ⟨_, rfl, by omega, by omega⟩
/-! ### The link's functions -/
theorem erase_mem {α : Type} {l : List α} {i : Nat} {x : α} (h : x ∈ l.eraseIdx i) : x ∈ l := List.mem_of_mem_eraseIdx h
theorem send_ok {s : Int} {f : List S68} {r e : Int} {h w : List (List Int)} {a : List Int} (H : LK s f r e h w a) (k : Nat) (hk : 3000000 < k) : ∃ b s' f' r' e' h' w' a', impl_Link_send.f k s f r e h w a = some (b, s', f', r', e', h', w', a') ∧ LK s' f' r' e' h' w' a' ∧ (b = true → w'.length = w.length + 1) := by
  obtain ⟨h1, h2, h3, h4, h5, h6⟩ := H
  unfold impl_Link_send.f
  rcases ready_ok h1 k hk with ⟨s', f', r', q, b, e1⟩ | ⟨q, b, e1, g1, g2, g3⟩
  · rw [e1]
    exact ⟨false, s, f, r, e, h, w, a, rfl, ⟨h1, h2, h3, h4, h5, h6⟩, by simp⟩
  · rw [e1]
    simp only [Option.bind_some]
    rw [if_pos (by trivial)]
    by_cases h8 : (w.length : Int) = 8
    · rw [if_pos h8]
      exact ⟨false, s, f, r, e, h, w, a, rfl, ⟨h1, h2, h3, h4, h5, h6⟩, by simp⟩
    · obtain ⟨y, e2, hy⟩ := wire_ok q b g2 g3 k hk
      rw [if_neg h8, e2]
      simp only [Option.bind_some]
      rw [if_pos (by omega)]
      refine ⟨_, _, _, _, _, _, _, _, rfl, ⟨g1, h2, by rw [List.length_append, List.length_singleton]; omega, fun x hx => ?_, h5, h6⟩, fun _ => by rw [List.length_append, List.length_singleton]⟩
      rw [List.mem_append, List.mem_singleton] at hx
      rcases hx with hx | rfl
      · exact h4 x hx
      · exact hy
theorem rdl_mem {w : List (List Int)} {j : Int} (h0 : 0 ≤ j) (h1 : j < (w.length : Int)) : rdl_ w j ∈ w := by
  obtain ⟨m, rfl⟩ : ∃ m : Nat, j = (m : Int) := ⟨j.toNat, by omega⟩
  have hm : m < w.length := by omega
  unfold rdl_
  rw [Int.toNat_natCast, List.getD_eq_getElem?_getD, List.getElem?_eq_getElem hm]
  exact List.getElem_mem hm
theorem deliver_ok {s : Int} {f : List S68} {r e : Int} {h w : List (List Int)} {a : List Int} (H : LK s f r e h w a) (k : Nat) (hk : 3000000 < k) : ∃ b s' f' r' e' h' w' a', impl_Link_deliver.f k s f r e h w a = some (b, s', f', r', e', h', w', a') ∧ LK s' f' r' e' h' w' a' ∧ (b = true → w'.length + 1 = w.length) := by
  obtain ⟨h1, h2, h3, h4, h5, h6⟩ := H
  unfold impl_Link_deliver.f
  by_cases hw : (w.length : Int) = 0
  · rw [if_pos hw]
    exact ⟨false, s, f, r, e, h, w, a, rfl, ⟨h1, h2, h3, h4, h5, h6⟩, by simp⟩
  have hw0 : (0 : Int) < (w.length : Int) := by omega
  have hb := h4 _ (rdl_mem (Int.le_refl 0) hw0)
  obtain ⟨e', h', v, e1, g1⟩ := take_ok h2 (rdl_ w 0) (by have := bytes_small hb; omega) k hk
  rw [if_neg hw, if_pos (Int.le_refl 0), if_pos hw0, e1]
  simp only [Option.bind_some]
  rw [if_pos (Int.le_refl 0), if_pos hw0]
  have hl : (w.eraseIdx (Int.toNat 0)).length + 1 = w.length := by rw [List.length_eraseIdx]; split <;> omega
  have hm : ∀ x ∈ w.eraseIdx (Int.toNat 0), bytesB x = true := fun x hx => h4 x (erase_mem hx)
  have fin : ∀ (a' : List Int), a'.length ≤ 8 → (∀ v ∈ a', (0 ≤ v ∧ v ≤ 15) ∨ (100 ≤ v ∧ v ≤ 115)) → ∃ b s2 f2 r2 e2 h2 w2 a2, (some (true, s, f, r, e', h', w.eraseIdx (Int.toNat 0), a') : Option (Bool × Int × List S68 × Int × Int × List (List Int) × List (List Int) × List Int)) = some (b, s2, f2, r2, e2, h2, w2, a2) ∧ LK s2 f2 r2 e2 h2 w2 a2 ∧ (b = true → w2.length + 1 = w.length) :=
    fun a' p1 p2 => ⟨_, _, _, _, _, _, _, _, rfl, ⟨h1, g1, by omega, hm, p1, p2⟩, fun _ => hl⟩
  by_cases ha : (a.length : Int) < 8
  · obtain ⟨n, e2, n0, n1⟩ := ackOf_ok g1 k hk
    have hs : ∀ v, (0 ≤ v ∧ v ≤ 15) ∨ (100 ≤ v ∧ v ≤ 115) → ∀ u ∈ a ++ [v], (0 ≤ u ∧ u ≤ 15) ∨ (100 ≤ u ∧ u ≤ 115) := by
      intro v hv u hu
      rw [List.mem_append, List.mem_singleton] at hu
      rcases hu with hu | rfl
      · exact h6 u hu
      · exact hv
    have hlen : ∀ v : Int, (a ++ [v]).length ≤ 8 := fun v => by rw [List.length_append, List.length_singleton]; omega
    rw [if_pos ha, e2]
    simp only [Option.bind_some]
    rw [wrap_id (n + 100) (by omega)]
    by_cases v2 : v = 2
    · rw [if_pos v2, if_pos (by omega)]; exact fin _ (hlen _) (hs _ (.inr (by omega)))
    · rw [if_neg v2]
      by_cases v3 : v = 3
      · rw [if_pos v3, if_pos (by omega)]; exact fin _ (hlen _) (hs _ (.inr (by omega)))
      · rw [if_neg v3, if_pos (by omega)]; exact fin _ (hlen _) (hs _ (.inl (by omega)))
  · rw [if_neg ha]; exact fin a h5 h6
theorem answer_ok {s : Int} {f : List S68} {r e : Int} {h w : List (List Int)} {a : List Int} (H : LK s f r e h w a) (k : Nat) (hk : 3000000 < k) : ∃ b s' f' r' e' h' w' a', impl_Link_answer.f k s f r e h w a = some (b, s', f', r', e', h', w', a') ∧ LK s' f' r' e' h' w' a' ∧ (b = true → a'.length + 1 = a.length) := by
  obtain ⟨h1, h2, h3, h4, h5, h6⟩ := H
  unfold impl_Link_answer.f
  by_cases ha : (a.length : Int) = 0
  · rw [if_pos ha]
    exact ⟨false, s, f, r, e, h, w, a, rfl, ⟨h1, h2, h3, h4, h5, h6⟩, by simp⟩
  have ha0 : (0 : Int) < (a.length : Int) := by omega
  obtain ⟨s', f', r', o, e1, g1⟩ := ack_ok h1 (Int.tmod (rd a 0) 100) k hk
  rw [if_neg ha, if_pos (Int.le_refl 0), if_pos ha0, if_pos (Int.le_refl 0), if_pos ha0, e1]
  simp only [Option.bind_some]
  have hl : (a.eraseIdx (Int.toNat 0)).length + 1 = a.length := by rw [List.length_eraseIdx]; split <;> omega
  have hm : ∀ v ∈ a.eraseIdx (Int.toNat 0), (0 ≤ v ∧ v ≤ 15) ∨ (100 ≤ v ∧ v ≤ 115) := fun x hx => h6 x (erase_mem hx)
  by_cases hn : 100 ≤ rd a 0
  · obtain ⟨e2, g2⟩ := replay_ok g1 k hk
    rw [if_pos hn, e2]
    exact ⟨_, _, _, _, _, _, _, _, rfl, ⟨g2, h2, h3, h4, by omega, hm⟩, fun _ => hl⟩
  · rw [if_neg hn]
    exact ⟨_, _, _, _, _, _, _, _, rfl, ⟨g1, h2, h3, h4, by omega, hm⟩, fun _ => hl⟩
theorem flip_byte (x : Int) (m : Nat) (hx : 0 ≤ x ∧ x ≤ 255) (hm : m ≤ 7) : 0 ≤ Go.bits .xor .i64 x (shl .i64 1 (m : Int)) ∧ Go.bits .xor .i64 x (shl .i64 1 (m : Int)) ≤ 255 := by
  obtain ⟨n, rfl⟩ : ∃ n : Nat, x = (n : Int) := ⟨x.toNat, by omega⟩
  have hs : ∀ m : Nat, m ≤ 7 → shl .i64 1 (m : Int) = ((2 ^ m : Nat) : Int) ∧ 2 ^ m < 256 := by decide
  obtain ⟨h1, h2⟩ := hs m hm
  rw [h1, i64_xor_natg n (2 ^ m) (by omega) (by omega)]
  have := Nat.xor_lt_two_pow (x := n) (y := 2 ^ m) (n := 8) (by omega) (by omega)
  omega
theorem flip_ok (b : List Int) (n : Int) (hb : bytesB b = true) (k : Nat) (hk : 3000000 < k) : ∃ y, impl_FlipBit.f k b n = some y ∧ bytesB y = true := by
  have hl := bytes_small hb
  unfold impl_FlipBit.f
  rw [clone_ev b (by omega)]
  simp only [Option.bind_some]
  rw [iAreBytes_ev b k (by omega), hb]
  simp only [Option.bind_some]
  rw [if_pos (by trivial), within_eq, wrap_id (8 * (b.length : Int)) (by omega), wrap_id (8 * (b.length : Int) - 1) (by omega)]
  simp only [Option.bind_some, decide_eq_true_eq]
  by_cases hn : 0 ≤ n ∧ n ≤ 8 * (b.length : Int) - 1
  case neg => rw [if_neg hn]; exact ⟨_, rfl, hb⟩
  have hd : Int.tdiv n 8 = n / 8 := Int.tdiv_eq_ediv_of_nonneg hn.1
  have hm : Int.tmod n 8 = n % 8 := Int.tmod_eq_emod_of_nonneg hn.1
  have hu : IntKind.u64.wrap (n % 8) = n % 8 := by
    have : n % 8 = 0 ∨ n % 8 = 1 ∨ n % 8 = 2 ∨ n % 8 = 3 ∨ n % 8 = 4 ∨ n % 8 = 5 ∨ n % 8 = 6 ∨ n % 8 = 7 := by omega
    rcases this with h | h | h | h | h | h | h | h <;> rw [h] <;> decide
  rw [if_pos hn, hd, hm, hu, wrap_id (n / 8) (by omega), if_pos (by omega), if_pos (by omega), if_pos (by omega)]
  refine ⟨_, rfl, ?_⟩
  have h1 := (bytesB_iff b).mp hb
  rw [bytesB_iff, List.length_set]
  refine ⟨?_, h1.2⟩
  rw [List.all_eq_true] at h1 ⊢
  intro x hx
  rcases List.mem_or_eq_of_mem_set hx with hx | rfl
  · exact h1.1 x hx
  · obtain ⟨m, e1⟩ : ∃ m : Nat, n % 8 = (m : Int) := ⟨(n % 8).toNat, by omega⟩
    obtain ⟨i, e2⟩ : ∃ i : Nat, n / 8 = (i : Int) := ⟨(n / 8).toNat, by omega⟩
    rw [e1, e2, byte_iff]
    have hi : i < b.length := by omega
    rw [rd_lt b i hi]
    exact flip_byte _ m ((byte_iff _).mp (h1.1 _ (List.getElem_mem hi))) (by omega)
theorem damage_ok {s : Int} {f : List S68} {r e : Int} {h w : List (List Int)} {a : List Int} (H : LK s f r e h w a) (n : Int) (k : Nat) (hk : 3000000 < k) : ∃ b s' f' r' e' h' w' a', impl_Link_damage.f k s f r e h w a n = some (b, s', f', r', e', h', w', a') ∧ LK s' f' r' e' h' w' a' := by
  have H0 := H
  obtain ⟨h1, h2, h3, h4, h5, h6⟩ := H
  unfold impl_Link_damage.f
  by_cases hn : n < 0
  · rw [if_pos hn]; exact ⟨_, _, _, _, _, _, _, _, rfl, H0⟩
  rw [if_neg hn, Int.tmod_eq_emod_of_nonneg (by omega)]
  by_cases hw : (w.length : Int) ≤ n % 8
  · rw [if_pos hw]; exact ⟨_, _, _, _, _, _, _, _, rfl, H0⟩
  rw [if_neg hw, if_pos (by omega), if_pos (by omega)]
  by_cases hq : wrap64 (8 * ((rdl_ w (n % 8)).length : Int)) ≤ wrap64 (Int.tdiv n 8)
  · rw [if_pos hq]; exact ⟨_, _, _, _, _, _, _, _, rfl, H0⟩
  obtain ⟨y, e1, hy⟩ := flip_ok (rdl_ w (n % 8)) (wrap64 (Int.tdiv n 8)) (h4 _ (rdl_mem (by omega) (by omega))) k hk
  rw [if_neg hq, e1]
  refine ⟨_, _, _, _, _, _, _, _, rfl, h1, h2, by rw [List.length_set]; exact h3, fun x hx => ?_, h5, h6⟩
  rcases List.mem_or_eq_of_mem_set hx with hx | rfl
  · exact h4 x hx
  · exact hy
theorem step_ok {s : Int} {f : List S68} {r e : Int} {h w : List (List Int)} {a : List Int} (H : LK s f r e h w a) (c n : Int) (k : Nat) (hk : 3000000 < k) : ∃ b s' f' r' e' h' w' a', impl_Link_step.f k s f r e h w a c n = some (b, s', f', r', e', h', w', a') ∧ LK s' f' r' e' h' w' a' := by
  have H0 := H
  obtain ⟨h1, h2, h3, h4, h5, h6⟩ := H
  unfold impl_Link_step.f
  by_cases c7 : c = 7
  · rw [if_pos c7]
    unfold impl_isWord.f
    rw [within_eq]
    simp only [Option.bind_some, decide_eq_true_eq]
    by_cases hn : 0 ≤ n ∧ n ≤ 65535
    · obtain ⟨s', f', r', o, e1, g1⟩ := queue_ok h1 ([wrap64 (Int.tdiv n 256), Int.tmod n 256] : List Int) k hk
      rw [if_pos hn, e1]
      exact ⟨_, _, _, _, _, _, _, _, rfl, g1, h2, h3, h4, h5, h6⟩
    · rw [if_neg hn]; exact ⟨_, _, _, _, _, _, _, _, rfl, H0⟩
  rw [if_neg c7]
  by_cases c1 : c = 1
  · obtain ⟨b, s', f', r', e', h', w', a', e1, g1, _⟩ := send_ok H0 k hk
    rw [if_pos c1, e1]; exact ⟨_, _, _, _, _, _, _, _, rfl, g1⟩
  rw [if_neg c1]
  by_cases c2 : c = 2
  · obtain ⟨b, s', f', r', e', h', w', a', e1, g1, _⟩ := deliver_ok H0 k hk
    rw [if_pos c2, e1]; exact ⟨_, _, _, _, _, _, _, _, rfl, g1⟩
  rw [if_neg c2]
  by_cases c3 : c = 3
  · rw [if_pos c3, within_eq, wrap_id ((w.length : Int) - 1) (by omega)]
    simp only [Option.bind_some, decide_eq_true_eq]
    by_cases hn : 0 ≤ n ∧ n ≤ (w.length : Int) - 1
    · rw [if_pos hn, if_pos hn.1, if_pos (by omega)]
      exact ⟨_, _, _, _, _, _, _, _, rfl, h1, h2, by rw [List.length_eraseIdx]; split <;> omega, fun x hx => h4 x (erase_mem hx), h5, h6⟩
    · rw [if_neg hn]; exact ⟨_, _, _, _, _, _, _, _, rfl, H0⟩
  rw [if_neg c3]
  by_cases c4 : c = 4
  · obtain ⟨b, s', f', r', e', h', w', a', e1, g1⟩ := damage_ok H0 n k hk
    rw [if_pos c4, e1]; exact ⟨_, _, _, _, _, _, _, _, rfl, g1⟩
  rw [if_neg c4]
  by_cases c5 : c = 5
  · obtain ⟨b, s', f', r', e', h', w', a', e1, g1, _⟩ := answer_ok H0 k hk
    rw [if_pos c5, e1]; exact ⟨_, _, _, _, _, _, _, _, rfl, g1⟩
  rw [if_neg c5]
  by_cases c6 : c = 6
  · obtain ⟨e1, g1⟩ := replay_ok h1 k hk
    rw [if_pos c6, e1]; exact ⟨_, _, _, _, _, _, _, _, rfl, g1, h2, h3, h4, h5, h6⟩
  rw [if_neg c6]
  exact ⟨_, _, _, _, _, _, _, _, rfl, H0⟩
/-! ### The check: no one, two or three bits of five bytes can be turned unseen -/
def kb1 (s : Nat) : Nat := if s < 32768 then s * 2 else (s * 2) ^^^ 69665
def kb : Nat → Nat → Nat
  | 0, s => s
  | d + 1, s => kb d (kb1 s)
def kn : Nat → List Nat → Nat
  | s, [] => s
  | s, b :: r => kn (kb 8 (s ^^^ (b * 256))) r
def ln : Nat → Nat → Nat
  | 0, t => t
  | k + 1, t => ln k (kb 8 t)
theorem kb1_lt (s : Nat) (h : s < 65536) : kb1 s < 65536 := by
  unfold kb1
  split
  · omega
  · have h1 : ((s * 2 : Nat) : Int) = ((s * 2 : Nat) : Int) := rfl
    have h2 := xor_top ((s * 2 : Nat) : Int) (by omega)
    rw [show (69665 : Int) = ((69665 : Nat) : Int) from rfl, i64_xor_natg (s * 2) 69665 (by omega) (by omega)] at h2
    omega
theorem kb_lt (d : Nat) : ∀ s, s < 65536 → kb d s < 65536 := by
  induction d with
  | zero => intro s h; exact h
  | succ d ih => intro s h; exact ih _ (kb1_lt s h)
theorem x16 (a b : Nat) (ha : a < 65536) (hb : b < 65536) : a ^^^ b < 65536 := Nat.xor_lt_two_pow (n := 16) ha hb
theorem kn_lt (l : List Nat) : ∀ s, s < 65536 → (∀ b ∈ l, b < 256) → kn s l < 65536 := by
  induction l with
  | nil => intro s h _; exact h
  | cons b r ih =>
    intro s h hb
    have h1 := hb b (by simp)
    rw [kn]
    exact ih (kb 8 (s ^^^ (b * 256))) (kb_lt 8 (s ^^^ (b * 256)) (x16 s (b * 256) h (by omega))) (fun c hc => hb c (by simp [hc]))
theorem ckb_nat (d : Nat) : ∀ s : Nat, s < 65536 → ckb d (s : Int) = (kb d s : Int) := by
  induction d with
  | zero => intro s _; rfl
  | succ d ih =>
    intro s h
    have hw : wrap64 ((s : Int) * 2) = ((s * 2 : Nat) : Int) := by rw [wrap_id _ (by omega)]; omega
    rw [ckb, hw, kb, kb1]
    by_cases h1 : s < 32768
    · rw [if_neg (by omega), if_pos h1]
      exact ih _ (by omega)
    · rw [if_pos (by omega), if_neg h1, show (69665 : Int) = ((69665 : Nat) : Int) from rfl, i64_xor_natg (s * 2) 69665 (by omega) (by omega)]
      have := kb1_lt s h
      rw [kb1, if_neg h1] at this
      exact ih _ this
theorem ck_nat (l : List Nat) : ∀ s : Nat, s < 65536 → (∀ b ∈ l, b < 256) → ck (s : Int) (l.map (fun b : Nat => (b : Int))) = (kn s l : Int) := by
  induction l with
  | nil => intro s _ _; rfl
  | cons b r ih =>
    intro s h hb
    have hb0 := hb b (by simp)
    have hw : wrap64 ((b : Int) * 256) = ((b * 256 : Nat) : Int) := by rw [wrap_id _ (by omega)]; omega
    rw [List.map_cons, ck, hw, i64_xor_natg s (b * 256) (by omega) (by omega), ckb_nat 8 _ (x16 _ _ h (by omega)), kn]
    exact ih _ (kb_lt 8 _ (x16 _ _ h (by omega))) (fun c hc => hb c (by simp [hc]))
theorem dbl_xor (s t : Nat) : (s ^^^ t) * 2 = (s * 2) ^^^ (t * 2) := by
  have h := Nat.shiftLeft_xor_distrib (a := s) (b := t) (i := 1)
  simpa [Nat.shiftLeft_eq] using h
theorem bit15 (s : Nat) (h : s < 65536) : s.testBit 15 = decide (32768 ≤ s) := by
  rw [Nat.testBit_eq_decide_div_mod_eq, decide_eq_decide]
  omega
theorem kb1_form (s : Nat) (h : s < 65536) : kb1 s = (s * 2) ^^^ (if s.testBit 15 = true then 69665 else 0) := by
  unfold kb1
  rw [bit15 s h]
  by_cases h1 : s < 32768
  · rw [if_pos h1, if_neg (by simp; omega), Nat.xor_zero]
  · rw [if_neg h1, if_pos (by simp; omega)]
theorem kb1_xor (s t : Nat) (hs : s < 65536) (ht : t < 65536) : kb1 (s ^^^ t) = kb1 s ^^^ kb1 t := by
  rw [kb1_form _ (x16 s t hs ht), kb1_form s hs, kb1_form t ht, dbl_xor, Nat.testBit_xor]
  apply Nat.eq_of_testBit_eq
  intro i
  simp only [Nat.testBit_xor]
  cases s.testBit 15 <;> cases t.testBit 15 <;> simp [Nat.testBit_xor, Nat.zero_testBit] <;> cases (s * 2).testBit i <;> cases (t * 2).testBit i <;> cases Nat.testBit 69665 i <;> rfl
theorem kb_xor (d : Nat) : ∀ s t, s < 65536 → t < 65536 → kb d (s ^^^ t) = kb d s ^^^ kb d t := by
  induction d with
  | zero => intro s t _ _; rfl
  | succ d ih =>
    intro s t hs ht
    rw [kb, kb, kb, kb1_xor s t hs ht]
    exact ih _ _ (kb1_lt s hs) (kb1_lt t ht)
theorem kn_xor (l : List Nat) : ∀ s t, s < 65536 → t < 65536 → (∀ b ∈ l, b < 256) → kn (s ^^^ t) l = kn s l ^^^ ln l.length t := by
  induction l with
  | nil => intro s t _ _ _; rfl
  | cons b r ih =>
    intro s t hs ht hb
    have hb0 := hb b (by simp)
    have e1 : (s ^^^ t) ^^^ (b * 256) = (s ^^^ (b * 256)) ^^^ t := by rw [Nat.xor_assoc, Nat.xor_comm t, ← Nat.xor_assoc]
    rw [kn, kn, e1, kb_xor 8 _ _ (x16 _ _ hs (by omega)) ht, List.length_cons, ln]
    exact ih _ _ (kb_lt 8 _ (x16 _ _ hs (by omega))) (kb_lt 8 _ ht) (fun c hc => hb c (by simp [hc]))
/-- What a turned bit does to the check. -/
def sy (n : Nat) : Nat := if n < 8 then ln 3 (2 ^ n * 256) else if n < 16 then ln 2 (2 ^ (n - 8) * 256) else if n < 24 then ln 1 (2 ^ (n - 16) * 256) else if n < 32 then 2 ^ (n - 24) * 256 else 2 ^ (n - 32)
theorem sy_1 : ∀ i, i < 40 → sy i ≠ 0 := by decide +kernel
theorem sy_2 : ∀ i, i < 40 → ∀ j, j < 40 → sy i = sy j → i = j := by decide +kernel
theorem sy_3 : ∀ i, i < 40 → ∀ j, j < 40 → ∀ k, k < 40 → sy i ^^^ sy j ^^^ sy k ≠ 0 := by decide +kernel
/-! ### Flips of a word of five bytes -/
theorem mul256_xor (x y : Nat) : (x ^^^ y) * 256 = (x * 256) ^^^ (y * 256) := by
  have h := Nat.shiftLeft_xor_distrib (a := x) (b := y) (i := 8)
  simpa [Nat.shiftLeft_eq] using h
theorem cat_xor (x e : Nat) (he : e < 256) : x * 256 + e = (x * 256) ^^^ e := by
  apply Nat.eq_of_testBit_eq
  intro j
  rw [Nat.testBit_xor, Nat.mul_comm x 256, show (256 : Nat) = 2 ^ 8 from rfl, Nat.testBit_two_pow_mul_add x (show e < 2 ^ 8 from he) j, Nat.testBit_two_pow_mul]
  by_cases hj : j < 8
  · rw [if_pos hj, decide_eq_false (by omega), Bool.false_and, Bool.false_xor]
  · have h1 : e.testBit j = false := Nat.testBit_lt_two_pow (Nat.lt_of_lt_of_le (show e < 2 ^ 8 from he) (Nat.pow_le_pow_right (by omega) (by omega)))
    rw [if_neg hj, decide_eq_true (by omega), h1, Bool.true_and, Bool.xor_false]
theorem x3 (a b c : Nat) : a ^^^ b ^^^ c = a ^^^ c ^^^ b := by rw [Nat.xor_assoc, Nat.xor_comm b, ← Nat.xor_assoc]
theorem kn_cons (s b : Nat) (r : List Nat) : kn s (b :: r) = kn (kb 8 (s ^^^ (b * 256))) r := by rw [kn]
theorem ln_succ (k t : Nat) : ln (k + 1) t = ln k (kb 8 t) := by rw [ln]
def syn : List Nat → Nat
  | [a, b, c, d, e] => kn 65535 [a, b, c] ^^^ (d * 256 + e)
  | _ => 0
def fl (x : List Nat) (n : Nat) : List Nat := x.set (n / 8) (x.getD (n / 8) 0 ^^^ 2 ^ (n % 8))
def W5 (x : List Nat) : Prop := x.length = 5 ∧ ∀ b ∈ x, b < 256
theorem w5_ex {x : List Nat} (h : W5 x) : ∃ a b c d e, x = [a, b, c, d, e] ∧ a < 256 ∧ b < 256 ∧ c < 256 ∧ d < 256 ∧ e < 256 := by
  obtain ⟨h1, h2⟩ := h
  match x, h1, h2 with
  | [a, b, c, d, e], _, h2 => exact ⟨a, b, c, d, e, rfl, h2 a (by simp), h2 b (by simp), h2 c (by simp), h2 d (by simp), h2 e (by simp)⟩
theorem bit_lt (m : Nat) (h : m < 8) : 2 ^ m < 256 := by
  have := Nat.pow_lt_pow_right (a := 2) (by omega) h
  omega
theorem b8 (a m : Nat) (ha : a < 256) (hm : m < 8) : a ^^^ 2 ^ m < 256 := Nat.xor_lt_two_pow (n := 8) ha (bit_lt m hm)
theorem fl_w5 {x : List Nat} (h : W5 x) (n : Nat) (hn : n < 40) : W5 (fl x n) := by
  obtain ⟨h1, h2⟩ := h
  refine ⟨by unfold fl; rw [List.length_set]; exact h1, fun b hb => ?_⟩
  unfold fl at hb
  rcases List.mem_or_eq_of_mem_set hb with hb | rfl
  · exact h2 b hb
  · rw [List.getD_eq_getElem?_getD, List.getElem?_eq_getElem (by omega)]
    exact b8 _ _ (h2 _ (List.getElem_mem _)) (by omega)
theorem fl_fl {x : List Nat} (h : x.length = 5) (n : Nat) (hn : n < 40) : fl (fl x n) n = x := by
  unfold fl
  rw [List.set_set, List.getD_eq_getElem?_getD, List.getD_eq_getElem?_getD, List.getElem?_set_self (by omega), List.getElem?_eq_getElem (show n / 8 < x.length by omega), Option.getD_some, Option.getD_some, Nat.xor_assoc, Nat.xor_self, Nat.xor_zero, List.set_getElem_self]
theorem syn_fl {x : List Nat} (h : W5 x) (n : Nat) (hn : n < 40) : syn (fl x n) = syn x ^^^ sy n := by
  obtain ⟨a, b, c, d, e, rfl, ha, hb, hc, hd, he⟩ := w5_ex h
  have hm : n % 8 < 8 := Nat.mod_lt _ (by omega)
  have h5 : n / 8 = 0 ∨ n / 8 = 1 ∨ n / 8 = 2 ∨ n / 8 = 3 ∨ n / 8 = 4 := by omega
  have hbit := bit_lt _ hm
  have h0 : (65535 : Nat) < 65536 := by omega
  have p : ∀ z : Nat, z < 256 → z * 256 < 65536 := by omega
  have k1 := kb_lt 8 _ (x16 65535 (a * 256) h0 (p a ha))
  have k2 := kb_lt 8 _ (x16 _ (b * 256) k1 (p b hb))
  rcases h5 with h | h | h | h | h
  · have e1 : fl [a, b, c, d, e] n = [a ^^^ 2 ^ (n % 8), b, c, d, e] := by unfold fl; rw [h]; rfl
    have e2 : n % 8 = n := by omega
    have e3 : 65535 ^^^ ((a ^^^ 2 ^ n) * 256) = (65535 ^^^ (a * 256)) ^^^ (2 ^ n * 256) := by rw [mul256_xor, Nat.xor_assoc]
    rw [e2] at e1 hbit
    have e4 : kn 65535 [a ^^^ 2 ^ n, b, c] = kn 65535 [a, b, c] ^^^ ln 3 (2 ^ n * 256) := by
      rw [kn_cons 65535 (a ^^^ 2 ^ n) [b, c], kn_cons 65535 a [b, c], e3, kb_xor 8 _ _ (x16 65535 (a * 256) h0 (p a ha)) (p _ hbit), kn_xor [b, c] _ _ k1 (kb_lt 8 _ (p _ hbit)) (by simp [hb, hc]), ln_succ 2, show [b, c].length = 2 from rfl]
    have e5 : sy n = ln 3 (2 ^ n * 256) := by unfold sy; rw [if_pos (by omega)]
    rw [e1, syn, syn, e4, e5, x3]
  · have e1 : fl [a, b, c, d, e] n = [a, b ^^^ 2 ^ (n % 8), c, d, e] := by unfold fl; rw [h]; rfl
    have e2 : n % 8 = n - 8 := by omega
    rw [e2] at e1 hbit
    have e3 : ∀ s : Nat, s ^^^ ((b ^^^ 2 ^ (n - 8)) * 256) = (s ^^^ (b * 256)) ^^^ (2 ^ (n - 8) * 256) := fun s => by rw [mul256_xor, Nat.xor_assoc]
    have e4 : kn 65535 [a, b ^^^ 2 ^ (n - 8), c] = kn 65535 [a, b, c] ^^^ ln 2 (2 ^ (n - 8) * 256) := by
      rw [kn_cons 65535 a (_ :: _), kn_cons 65535 a (_ :: _), kn_cons _ (b ^^^ 2 ^ (n - 8)) [c], kn_cons _ b [c], e3, kb_xor 8 _ _ (x16 _ (b * 256) k1 (p b hb)) (p _ hbit), kn_xor [c] _ _ k2 (kb_lt 8 _ (p _ hbit)) (by simp [hc]), ln_succ 1, show [c].length = 1 from rfl]
    have e5 : sy n = ln 2 (2 ^ (n - 8) * 256) := by unfold sy; rw [if_neg (by omega), if_pos (by omega)]
    rw [e1, syn, syn, e4, e5, x3]
  · have e1 : fl [a, b, c, d, e] n = [a, b, c ^^^ 2 ^ (n % 8), d, e] := by unfold fl; rw [h]; rfl
    have e2 : n % 8 = n - 16 := by omega
    rw [e2] at e1 hbit
    have e3 : ∀ s : Nat, s ^^^ ((c ^^^ 2 ^ (n - 16)) * 256) = (s ^^^ (c * 256)) ^^^ (2 ^ (n - 16) * 256) := fun s => by rw [mul256_xor, Nat.xor_assoc]
    have e4 : kn 65535 [a, b, c ^^^ 2 ^ (n - 16)] = kn 65535 [a, b, c] ^^^ ln 1 (2 ^ (n - 16) * 256) := by
      rw [kn_cons 65535 a (_ :: _), kn_cons 65535 a (_ :: _), kn_cons _ b (_ :: _), kn_cons _ b (_ :: _), kn_cons _ (c ^^^ 2 ^ (n - 16)) [], kn_cons _ c [], e3, kb_xor 8 _ _ (x16 _ (c * 256) k2 (p c hc)) (p _ hbit), kn_xor [] _ _ (kb_lt 8 _ (x16 _ (c * 256) k2 (p c hc))) (kb_lt 8 _ (p _ hbit)) (by simp), ln_succ 0, show ([] : List Nat).length = 0 from rfl]
    have e5 : sy n = ln 1 (2 ^ (n - 16) * 256) := by unfold sy; rw [if_neg (by omega), if_neg (by omega), if_pos (by omega)]
    rw [e1, syn, syn, e4, e5, x3]
  · have e1 : fl [a, b, c, d, e] n = [a, b, c, d ^^^ 2 ^ (n % 8), e] := by unfold fl; rw [h]; rfl
    have e2 : n % 8 = n - 24 := by omega
    rw [e2] at e1
    have e5 : sy n = 2 ^ (n - 24) * 256 := by unfold sy; rw [if_neg (by omega), if_neg (by omega), if_neg (by omega), if_pos (by omega)]
    rw [e1, syn, syn, e5, cat_xor _ e he, cat_xor _ e he, mul256_xor, x3 (d * 256), ← Nat.xor_assoc, ← Nat.xor_assoc]
  · have e1 : fl [a, b, c, d, e] n = [a, b, c, d, e ^^^ 2 ^ (n % 8)] := by unfold fl; rw [h]; rfl
    have e2 : n % 8 = n - 32 := by omega
    have he2 := b8 e _ he hm
    rw [e2] at e1 he2
    have e5 : sy n = 2 ^ (n - 32) := by unfold sy; rw [if_neg (by omega), if_neg (by omega), if_neg (by omega), if_neg (by omega)]
    rw [e1, syn, syn, e5, cat_xor _ e he, cat_xor _ _ he2, ← Nat.xor_assoc, ← Nat.xor_assoc, ← Nat.xor_assoc]
/-- A word behind its turned bits. -/
def fls (x : List Nat) (ns : List Nat) : List Nat := ns.foldl fl x
theorem fls_w5 (ns : List Nat) : ∀ x, W5 x → (∀ n ∈ ns, n < 40) → W5 (fls x ns) := by
  induction ns with
  | nil => intro x h _; exact h
  | cons n ns ih => intro x h hn; exact ih (fl x n) (fl_w5 h n (hn n (by simp))) (fun m hm => hn m (by simp [hm]))
theorem fls_same {x : List Nat} (h : W5 x) (h0 : syn x = 0) (ns : List Nat) (hn : ∀ n ∈ ns, n < 40) (hl : ns.length ≤ 3) (hs : syn (fls x ns) = 0) : fls x ns = x := by
  match ns, hl with
  | [], _ => rfl
  | [i], _ =>
    have hi := hn i (by simp)
    have e1 : syn (fl x i) = 0 := hs
    rw [syn_fl h i hi, h0, Nat.zero_xor] at e1
    exact absurd e1 (sy_1 i hi)
  | [i, j], _ =>
    have hi := hn i (by simp)
    have hj := hn j (by simp)
    have e1 : syn (fl (fl x i) j) = 0 := hs
    rw [syn_fl (fl_w5 h i hi) j hj, syn_fl h i hi, h0, Nat.zero_xor] at e1
    have e2 : sy i = sy j := by
      have : sy i ^^^ sy j ^^^ sy j = 0 ^^^ sy j := by rw [e1]
      rw [Nat.xor_assoc, Nat.xor_self, Nat.xor_zero, Nat.zero_xor] at this
      exact this
    have e3 := sy_2 i hi j hj e2
    subst e3
    exact fl_fl h.1 i hi
  | [i, j, m], _ =>
    have hi := hn i (by simp)
    have hj := hn j (by simp)
    have hm := hn m (by simp)
    have e1 : syn (fl (fl (fl x i) j) m) = 0 := hs
    rw [syn_fl (fl_w5 (fl_w5 h i hi) j hj) m hm, syn_fl (fl_w5 h i hi) j hj, syn_fl h i hi, h0, Nat.zero_xor] at e1
    exact absurd e1 (sy_3 i hi j hj m hm)
/-! ### What is on the wire -/
def toI (x : List Nat) : List Int := x.map (fun b : Nat => (b : Int))
def pay (b : Nat × Nat) : List Int := [(b.1 : Int), (b.2 : Int)]
def wireN (i : Nat) (b : Nat × Nat) : List Nat := [i % 16, b.1, b.2, kn 65535 [i % 16, b.1, b.2] / 256, kn 65535 [i % 16, b.1, b.2] % 256]
theorem kn3 (i : Nat) (b : Nat × Nat) (hb : b.1 < 256 ∧ b.2 < 256) : kn 65535 [i % 16, b.1, b.2] < 65536 := kn_lt _ _ (by omega) (by intro c hc; simp only [List.mem_cons, List.not_mem_nil, or_false] at hc; omega)
theorem wire_w5 (i : Nat) (b : Nat × Nat) (hb : b.1 < 256 ∧ b.2 < 256) : W5 (wireN i b) := by
  have h := kn3 i b hb
  refine ⟨rfl, fun c hc => ?_⟩
  unfold wireN at hc
  generalize kn 65535 [i % 16, b.1, b.2] = v at h hc
  simp only [List.mem_cons, List.not_mem_nil, or_false] at hc
  omega
theorem wire_syn (i : Nat) (b : Nat × Nat) (hb : b.1 < 256 ∧ b.2 < 256) : syn (wireN i b) = 0 := by
  have h : kn 65535 [i % 16, b.1, b.2] / 256 * 256 + kn 65535 [i % 16, b.1, b.2] % 256 = kn 65535 [i % 16, b.1, b.2] := by
    generalize kn 65535 [i % 16, b.1, b.2] = v; omega
  unfold wireN
  rw [syn, h, Nat.xor_self]
theorem toI_all {x : List Nat} (h : ∀ b ∈ x, b < 256) : (toI x).all byteB = true := by
  rw [List.all_eq_true]
  intro y hy
  unfold toI at hy
  obtain ⟨b, hb, rfl⟩ := List.mem_map.mp hy
  have := h b hb
  rw [byte_iff]; omega
theorem toI_bytes {x : List Nat} (h : W5 x) : bytesB (toI x) = true := by
  rw [bytesB_iff]
  exact ⟨toI_all h.2, by unfold toI; rw [List.length_map, h.1]; decide⟩
theorem ck3 (a b c : Nat) (ha : a < 256) (hb : b < 256) (hc : c < 256) : ck 65535 [(a : Int), (b : Int), (c : Int)] = (kn 65535 [a, b, c] : Int) := by
  have e1 : [(a : Int), (b : Int), (c : Int)] = [a, b, c].map (fun b : Nat => (b : Int)) := rfl
  have e2 : (65535 : Int) = ((65535 : Nat) : Int) := rfl
  rw [e1, e2, ck_nat [a, b, c] 65535 (by omega) (by intro z hz; simp only [List.mem_cons, List.not_mem_nil, or_false] at hz; omega)]
theorem addCk_wire (i : Nat) (b : Nat × Nat) (hb : b.1 < 256 ∧ b.2 < 256) : addCk ([((i % 16 : Nat) : Int)] ++ pay b) = toI (wireN i b) := by
  have e1 : [((i % 16 : Nat) : Int)] ++ pay b = [((i % 16 : Nat) : Int), (b.1 : Int), (b.2 : Int)] := rfl
  unfold addCk
  rw [e1, ck3 _ _ _ (by omega) hb.1 hb.2]
  unfold wireN toI
  simp only [List.map_cons, List.map_nil, List.cons_append, List.nil_append]
  rw [Int.natCast_ediv, Int.natCast_emod]
  rfl
theorem take_wire (i : Nat) (b : Nat × Nat) (hb : b.1 < 256 ∧ b.2 < 256) : takeOk (toI (wireN i b)) ∧ twR (toI (wireN i b)) = (((i % 16 : Nat) : Int), pay b, true) := by
  have h5 := wire_w5 i b hb
  have hl : (toI (wireN i b)).length = 5 := by unfold toI; rw [List.length_map]; exact h5.1
  have ht : (toI (wireN i b)).take ((toI (wireN i b)).length - 2) = [((i % 16 : Nat) : Int)] ++ pay b := by rw [hl]; rfl
  have hok : takeOk (toI (wireN i b)) := ⟨by omega, toI_bytes h5, by rw [ht]; exact addCk_wire i b hb⟩
  refine ⟨hok, ?_⟩
  unfold twR
  rw [if_pos hok, ht]
  show (if seqB ((i % 16 : Nat) : Int) = true then (((i % 16 : Nat) : Int), pay b, true) else (0, [], false)) = _
  rw [if_pos ((seq_iff _).mpr (by omega))]
theorem syn_of_take {x : List Nat} (h : W5 x) (hk : takeOk (toI x)) : syn x = 0 := by
  obtain ⟨a, b, c, d, e, rfl, ha, hb, hc, hd, he⟩ := w5_ex h
  have h3 : [(a : Int), (b : Int), (c : Int)] ++ [ck 65535 [(a : Int), (b : Int), (c : Int)] / 256, ck 65535 [(a : Int), (b : Int), (c : Int)] % 256] = [(a : Int), (b : Int), (c : Int), (d : Int), (e : Int)] := hk.2.2
  rw [ck3 a b c ha hb hc] at h3
  simp only [List.cons_append, List.nil_append, List.cons.injEq, and_true, true_and] at h3
  rw [syn]
  generalize kn 65535 [a, b, c] = v at h3
  have e1 : d * 256 + e = v := by omega
  rw [e1, Nat.xor_self]
theorem flip_gen (b : List Int) (n : Int) (hb : bytesB b = true) (hn : 0 ≤ n ∧ n ≤ 8 * (b.length : Int) - 1) (k : Nat) (hk : 3000000 < k) : ∃ y, impl_FlipBit.f k b n = some y ∧ y = b.set (n / 8).toNat (Go.bits .xor .i64 (rd b (n / 8)) (shl .i64 1 (n % 8))) := by
  have hl := bytes_small hb
  unfold impl_FlipBit.f
  rw [clone_ev b (by omega)]
  simp only [Option.bind_some]
  rw [iAreBytes_ev b k (by omega), hb]
  simp only [Option.bind_some]
  rw [if_pos (by trivial), within_eq, wrap_id (8 * (b.length : Int)) (by omega), wrap_id (8 * (b.length : Int) - 1) (by omega)]
  simp only [Option.bind_some, decide_eq_true_eq]
  have hd : Int.tdiv n 8 = n / 8 := Int.tdiv_eq_ediv_of_nonneg hn.1
  have hm : Int.tmod n 8 = n % 8 := Int.tmod_eq_emod_of_nonneg hn.1
  have hu : IntKind.u64.wrap (n % 8) = n % 8 := by
    have : n % 8 = 0 ∨ n % 8 = 1 ∨ n % 8 = 2 ∨ n % 8 = 3 ∨ n % 8 = 4 ∨ n % 8 = 5 ∨ n % 8 = 6 ∨ n % 8 = 7 := by omega
    rcases this with h | h | h | h | h | h | h | h <;> rw [h] <;> decide
  rw [if_pos hn, hd, hm, hu, wrap_id (n / 8) (by omega), if_pos (by omega), if_pos (by omega), if_pos (by omega)]
  exact ⟨_, rfl, rfl⟩
theorem flip_ev (x : List Nat) (n : Nat) (h : W5 x) (hn : n < 40) (k : Nat) (hk : 3000000 < k) : impl_FlipBit.f k (toI x) (n : Int) = some (toI (fl x n)) := by
  have hl5 : (toI x).length = 5 := by unfold toI; rw [List.length_map]; exact h.1
  obtain ⟨y, e1, e2⟩ := flip_gen (toI x) (n : Int) (toI_bytes h) (by omega) k hk
  have hs : ∀ m : Nat, m ≤ 7 → shl .i64 1 (m : Int) = ((2 ^ m : Nat) : Int) := by decide
  have u2 := hs (n % 8) (by omega)
  have hd : (n : Int) / 8 = ((n / 8 : Nat) : Int) := by omega
  have hm : (n : Int) % 8 = ((n % 8 : Nat) : Int) := by omega
  have hlt : n / 8 < x.length := by have := h.1; omega
  have hx := h.2 _ (List.getElem_mem hlt)
  have hr : rd (toI x) ((n / 8 : Nat) : Int) = (x[n / 8] : Int) := by
    rw [rd_lt (toI x) (n / 8) (by omega)]
    unfold toI
    rw [List.getElem_map]
  rw [e1, e2, hd, hm, u2, hr, i64_xor_natg _ _ (by omega) (by have := bit_lt (n % 8) (Nat.mod_lt _ (by omega)); omega)]
  unfold fl toI
  rw [List.map_set, Int.toNat_natCast, List.getD_eq_getElem?_getD, List.getElem?_eq_getElem hlt, Option.getD_some]
/-! ### The protocol -/
def fr : Nat → List (Nat × Nat) → List S68
  | _, [] => []
  | i, b :: l => ⟨((i % 16 : Nat) : Int), pay b⟩ :: fr (i + 1) l
theorem fr_len (l : List (Nat × Nat)) : ∀ i, (fr i l).length = l.length := by
  induction l with
  | nil => intro i; rfl
  | cons b l ih => intro i; rw [fr, List.length_cons, List.length_cons, ih]
theorem fr_drop (l : List (Nat × Nat)) : ∀ i n : Nat, (fr i l).drop n = fr (i + n) (l.drop n) := by
  induction l with
  | nil => intro i n; rw [fr, List.drop_nil, List.drop_nil, fr]
  | cons b l ih =>
    intro i n
    cases n with
    | zero => rfl
    | succ n => rw [fr, List.drop_succ_cons, List.drop_succ_cons, ih, show i + 1 + n = i + (n + 1) from by omega]
theorem fr_app (l : List (Nat × Nat)) (b : Nat × Nat) : ∀ i, fr i (l ++ [b]) = fr i l ++ [(⟨(((i + l.length) % 16 : Nat) : Int), pay b⟩ : S68)] := by
  induction l with
  | nil => intro i; rfl
  | cons c l ih => intro i; rw [List.cons_append, fr, fr, ih, List.cons_append, List.length_cons, show i + 1 + l.length = i + (l.length + 1) from by omega]
theorem fr_get (l : List (Nat × Nat)) : ∀ (i m : Nat) (h : m < (fr i l).length) (h2 : m < l.length), (fr i l)[m] = (⟨(((i + m) % 16 : Nat) : Int), pay l[m]⟩ : S68) := by
  induction l with
  | nil => intro i m h h2; exact absurd h2 (by simp)
  | cons b l ih =>
    intro i m h h2
    cases m with
    | zero => rfl
    | succ m =>
      have h3 : m < l.length := by rw [List.length_cons] at h2; omega
      have := ih (i + 1) m (by rw [fr_len]; exact h3) h3
      rw [show i + 1 + m = i + (m + 1) from by omega] at this
      exact this
def wr (Q : List (Nat × Nat)) (p : Nat × List Nat) : List Int := toI (fls (wireN p.1 (Q.getD p.1 (0, 0))) p.2)
def an (p : Nat × Bool) : Int := (((p.1 + 15) % 16 : Nat) : Int) + (if p.2 = true then 100 else 0)
/-- What holds of a link: Q is queued, the first B are acknowledged, the first R accepted; g is in flight, u answered; no frame has more than c bits turned. -/
def Inv (c : Nat) (Q : List (Nat × Nat)) (B R : Nat) (g : List (Nat × List Nat)) (u : List (Nat × Bool)) (s : Int) (f : List S68) (e : Int) (h w : List (List Int)) (a : List Int) : Prop :=
  ((Q.length ≤ 400 ∧ (∀ b ∈ Q, b.1 < 256 ∧ b.2 < 256) ∧ B ≤ R ∧ R ≤ Q.length) ∧ s = ((Q.length % 16 : Nat) : Int) ∧ f = fr B (Q.drop B) ∧ e = ((R % 16 : Nat) : Int) ∧ h = (Q.take R).map pay) ∧
  (w = g.map (wr Q) ∧ (∀ p ∈ g, p.1 < Q.length ∧ R ≤ p.1 + 7 ∧ p.2.length ≤ c ∧ ∀ n ∈ p.2, n < 40) ∧ (g.map (fun p => p.1)).Pairwise (fun i j => i ≤ j + 6)) ∧
  (a = u.map an ∧ (∀ p ∈ u, B ≤ p.1 ∧ p.1 ≤ R) ∧ (u.map (fun p => p.1)).Pairwise (fun i j => i ≤ j))
theorem inv_mono {c c' : Nat} {Q : List (Nat × Nat)} {B R : Nat} {g : List (Nat × List Nat)} {u : List (Nat × Bool)} {s : Int} {f : List S68} {e : Int} {h w : List (List Int)} {a : List Int} (hc : c ≤ c') (I : Inv c Q B R g u s f e h w a) : Inv c' Q B R g u s f e h w a := by
  obtain ⟨i1, ⟨i2, i3, i4⟩, i5⟩ := I
  exact ⟨i1, ⟨i2, fun p hp => ⟨(i3 p hp).1, (i3 p hp).2.1, by have := (i3 p hp).2.2.1; omega, (i3 p hp).2.2.2⟩, i4⟩, i5⟩
theorem qd {Q : List (Nat × Nat)} (hQ : ∀ b ∈ Q, b.1 < 256 ∧ b.2 < 256) (i : Nat) (hi : i < Q.length) : (Q.getD i (0, 0)).1 < 256 ∧ (Q.getD i (0, 0)).2 < 256 := by
  rw [List.getD_eq_getElem?_getD, List.getElem?_eq_getElem hi]
  exact hQ _ (List.getElem_mem hi)
theorem pay_bytes (b : Nat × Nat) (hb : b.1 < 256 ∧ b.2 < 256) : bytesB (pay b) = true := by
  rw [bytesB_iff]
  refine ⟨?_, by unfold pay; simp⟩
  unfold pay
  simp only [List.all_cons, List.all_nil, Bool.and_true, Bool.and_eq_true, byte_iff]
  omega
theorem ready_ev {s : Int} {f : List S68} {r : Int} (H : SO s f r) (k : Nat) (hk : 3000000 < k) : (r = (f.length : Int) ∧ impl_TakeReady.f k s f r = some (s, f, r, 0, [], false)) ∨ (∃ (m : Nat) (hm : m < f.length), r = (m : Int) ∧ impl_TakeReady.f k s f r = some (s, f, r + 1, f[m].f0, f[m].f1, true)) := by
  unfold impl_TakeReady.f
  rw [copyS_ev s f r (by have := H.2.1; omega) (so_small H) k (by omega)]
  simp only [Option.bind_some]
  rw [so_ev H k hk]
  simp only [Option.bind_some]
  rw [if_pos (by trivial)]
  by_cases hr : r = (f.length : Int)
  · rw [if_pos hr]; exact .inl ⟨hr, rfl⟩
  obtain ⟨h1, h2, h3, h4⟩ := H
  rw [if_neg hr, if_pos h3.1, if_pos (by omega)]
  obtain ⟨m, rfl⟩ : ∃ m : Nat, r = (m : Int) := ⟨r.toNat, by omega⟩
  have hm : m < f.length := by omega
  have hx := h4 m f[m] (List.getElem?_eq_getElem hm)
  rw [rdG_lt f m hm, copyFrame_ev _ _ (by have := bytes_small hx.2.2; omega)]
  simp only [Option.bind_some]
  rw [wrap_id _ (by omega)]
  exact .inr ⟨m, hm, rfl, rfl⟩
theorem wire_gen (q : Int) (b : List Int) (hq : 0 ≤ q ∧ q ≤ 15) (hb : bytesB ([q] ++ b) = true ∧ ([q] ++ b).length ≤ 38) (k : Nat) (hk : 3000000 < k) : ∃ y, impl_WireFrame.f k q b = some y ∧ y = addCk ([q] ++ b) := by
  have hl : b.length ≤ 38 := by have := hb.2; simp at this; omega
  unfold impl_WireFrame.f
  rw [iIsSeq_eq, (seq_iff q).mpr hq]
  simp only [Option.bind_some]
  rw [if_pos (by trivial), if_pos (by simp; omega), iAddCheck_ev ([q] ++ b) (by simp; omega) k (by omega)]
  simp only [Option.bind_some]
  refine ⟨_, rfl, ?_⟩
  rw [if_pos hb]
theorem wire_ev (i : Nat) (b : Nat × Nat) (hb : b.1 < 256 ∧ b.2 < 256) (k : Nat) (hk : 3000000 < k) : impl_WireFrame.f k ((i % 16 : Nat) : Int) (pay b) = some (toI (wireN i b)) := by
  obtain ⟨y, e1, e2⟩ := wire_gen ((i % 16 : Nat) : Int) (pay b) (by omega) ⟨by
    rw [bytesB_iff]
    refine ⟨?_, by unfold pay; simp⟩
    have := (bytesB_iff _).mp (pay_bytes b hb)
    rw [List.all_append, this.1, Bool.and_true]
    simp only [List.all_cons, List.all_nil, Bool.and_true, byte_iff]
    omega, by unfold pay; simp⟩ k hk
  rw [e1, e2, addCk_wire i b hb]
theorem len_f {c : Nat} {Q : List (Nat × Nat)} {B R : Nat} {g : List (Nat × List Nat)} {u : List (Nat × Bool)} {s : Int} {f : List S68} {e : Int} {h w : List (List Int)} {a : List Int} (I : Inv c Q B R g u s f e h w a) : f.length = Q.length - B := by
  rw [I.1.2.2.1, fr_len, List.length_drop]
theorem send_inv {c : Nat} {Q : List (Nat × Nat)} {B R : Nat} {g : List (Nat × List Nat)} {u : List (Nat × Bool)} {s : Int} {f : List S68} {r e : Int} {h w : List (List Int)} {a : List Int} (H : LK s f r e h w a) (I : Inv c Q B R g u s f e h w a) (k : Nat) (hk : 3000000 < k) :
    ((r = (f.length : Int) ∨ w.length = 8) ∧ impl_Link_send.f k s f r e h w a = some (false, s, f, r, e, h, w, a)) ∨
    (∃ (m : Nat) (w' : List (List Int)), r = (m : Int) ∧ m < f.length ∧ w.length < 8 ∧ impl_Link_send.f k s f r e h w a = some (true, s, f, r + 1, e, h, w', a) ∧ LK s f (r + 1) e h w' a ∧ w'.length = w.length + 1 ∧ Inv c Q B R (g ++ [(B + m, [])]) u s f e h w' a) := by
  have H0 := H
  have hlf := len_f I
  obtain ⟨h1, h2, h3, h4, h5, h6⟩ := H
  obtain ⟨b0, s0, f0, r0, e0, h0, w0, a0, q0, g0, l0⟩ := send_ok H0 k hk
  rcases ready_ev h1 k hk with ⟨hr, e1⟩ | ⟨m, hm, hr, e1⟩
  · left
    refine ⟨.inl hr, ?_⟩
    unfold impl_Link_send.f
    rw [e1]
    simp only [Option.bind_some]
    rw [if_neg (by simp)]
  · by_cases h8 : (w.length : Int) = 8
    · left
      refine ⟨.inr (by omega), ?_⟩
      unfold impl_Link_send.f
      rw [e1]
      simp only [Option.bind_some]
      rw [if_pos (by trivial), if_pos h8]
    · right
      obtain ⟨⟨⟨i1, i2, i3, i4⟩, i5, i6, i7, i8⟩, ⟨i9, i10, i11⟩, i12⟩ := I
      have hB : B + m < Q.length := by omega
      have hd : m < (Q.drop B).length := by rw [List.length_drop]; omega
      have hfm : f[m] = (⟨(((B + m) % 16 : Nat) : Int), pay (Q.getD (B + m) (0, 0))⟩ : S68) := by
        subst i6
        rw [fr_get (Q.drop B) B m hm hd, List.getElem_drop, List.getD_eq_getElem?_getD, List.getElem?_eq_getElem hB, Option.getD_some]
      have e2 := wire_ev (B + m) (Q.getD (B + m) (0, 0)) (qd i2 _ hB) k hk
      have e3 : impl_Link_send.f k s f r e h w a = some (true, s, f, r + 1, e, h, w ++ [toI (wireN (B + m) (Q.getD (B + m) (0, 0)))], a) := by
        unfold impl_Link_send.f
        rw [e1]
        simp only [Option.bind_some]
        rw [if_pos (by trivial), if_neg h8, hfm, e2]
        simp only [Option.bind_some]
        rw [if_pos (by omega)]
      rw [e3] at q0
      simp only [Option.some.injEq, Prod.mk.injEq] at q0
      obtain ⟨rfl, rfl, rfl, rfl, rfl, rfl, rfl, rfl⟩ := q0
      refine ⟨m, _, hr, hm, by omega, e3, g0, by rw [List.length_append, List.length_singleton], ⟨⟨i1, i2, i3, i4⟩, i5, i6, i7, i8⟩, ⟨?_, fun p hp => ?_, ?_⟩, i12⟩
      · rw [List.map_append, i9]; rfl
      · rw [List.mem_append, List.mem_singleton] at hp
        rcases hp with hp | rfl
        · exact i10 p hp
        · exact ⟨hB, by have := h1.2.1; show R ≤ B + m + 7; omega, Nat.zero_le _, fun n hn => absurd hn (by simp)⟩
      · rw [List.map_append, List.pairwise_append]
        refine ⟨i11, by simp, fun i hi j hj => ?_⟩
        rw [List.mem_map] at hi hj
        obtain ⟨p, hp, rfl⟩ := hi
        obtain ⟨q, hq, rfl⟩ := hj
        rw [List.mem_singleton] at hq
        subst hq
        have := (i10 p hp).1
        have := h1.2.1
        show p.1 ≤ B + m + 6
        omega
theorem ack_ev {e : Int} {h : List (List Int)} (H : RO e h) (k : Nat) (hk : 3000000 < k) : impl_AckOf.f k e h = some ((e + 15) % 16) := by
  unfold impl_AckOf.f
  rw [iReceiverOk_ev e h (by have := H.2.1; omega) k (by omega), (ro_iff e h).mpr H]
  simp only [Option.bind_some]
  have := H.1
  rw [if_pos (by trivial), wrap_id (e + 16) (by omega), wrap_id (e + 16 - 1) (by omega), Int.tmod_eq_emod_of_nonneg (by omega), show e + 16 - 1 = e + 15 from by omega]
/-- What a receiver makes of a frame in flight. -/
theorem tf_inv {c : Nat} {Q : List (Nat × Nat)} {R : Nat} {e : Int} {h : List (List Int)} (H : RO e h) (hc : c ≤ 3) (hN : Q.length ≤ 400) (hQ : ∀ b ∈ Q, b.1 < 256 ∧ b.2 < 256) (hR : R ≤ Q.length) (he : e = ((R % 16 : Nat) : Int)) (hh : h = (Q.take R).map pay) (p : Nat × List Nat) (hp : p.1 < Q.length ∧ R ≤ p.1 + 7 ∧ p.2.length ≤ c ∧ ∀ n ∈ p.2, n < 40) (hp6 : p.1 ≤ R + 6) :
    ∃ (R' : Nat) (e' : Int) (h' : List (List Int)) (v : Int), tfR e h (wr Q p) = (e', h', v) ∧ e' = ((R' % 16 : Nat) : Int) ∧ h' = (Q.take R').map pay ∧ R' ≤ Q.length ∧ (R' = R ∨ (R' = R + 1 ∧ p.1 = R)) ∧ (p.2 = [] → p.1 = R → R' = R + 1) := by
  have hb := qd hQ p.1 hp.1
  have h5 := fls_w5 p.2 _ (wire_w5 p.1 _ hb) hp.2.2.2
  by_cases hk : takeOk (wr Q p)
  · have hs := syn_of_take h5 hk
    have hsame := fls_same (wire_w5 p.1 _ hb) (wire_syn p.1 _ hb) p.2 hp.2.2.2 (by omega) hs
    have hw : wr Q p = toI (wireN p.1 (Q.getD p.1 (0, 0))) := by unfold wr; rw [hsame]
    have ht := (take_wire p.1 _ hb).2
    rw [hw]
    by_cases hR0 : p.1 = R
    · refine ⟨R + 1, (((R + 1) % 16 : Nat) : Int), h ++ [pay (Q.getD p.1 (0, 0))], 0, ?_, rfl, ?_, by omega, .inr ⟨rfl, hR0⟩, fun _ _ => rfl⟩
      · unfold tfR
        have hj : judR e h (toI (wireN p.1 (Q.getD p.1 (0, 0)))) = 0 := by
          unfold judR
          rw [ht, if_pos ⟨rfl, (ro_iff e h).mpr H⟩, if_pos (by rw [he, hR0])]
        have hhl : h.length = R := by rw [hh, List.length_map, List.length_take]; omega
        rw [if_pos hj, if_neg (by omega), ht, nx_ev e H.1, he]
        have : (((R % 16 : Nat) : Int) + 1) % 16 = (((R + 1) % 16 : Nat) : Int) := by omega
        rw [this]
      · rw [hh, hR0, List.getD_eq_getElem?_getD, List.getElem?_eq_getElem (show R < Q.length by omega), Option.getD_some, take_snoc Q R (by omega), List.map_append]
        rfl
    · have hne : ((p.1 % 16 : Nat) : Int) ≠ e := by rw [he]; omega
      have hj : judR e h (toI (wireN p.1 (Q.getD p.1 (0, 0)))) ≠ 0 := by
        unfold judR
        rw [ht, if_pos ⟨rfl, (ro_iff e h).mpr H⟩, if_neg hne]
        split <;> decide
      exact ⟨R, e, h, judR e h (toI (wireN p.1 (Q.getD p.1 (0, 0)))), by unfold tfR; rw [if_neg hj], he, hh, hR, .inl rfl, fun _ h2 => absurd h2 hR0⟩
  · have ht : twR (wr Q p) = (0, [], false) := by unfold twR; rw [if_neg hk]
    have hj : judR e h (wr Q p) = 3 := by
      unfold judR
      rw [ht, if_neg (by simp)]
    refine ⟨R, e, h, 3, ?_, he, hh, hR, .inl rfl, fun h2 _ => ?_⟩
    · unfold tfR
      rw [hj, if_neg (by decide)]
    · exfalso
      apply hk
      have : wr Q p = toI (wireN p.1 (Q.getD p.1 (0, 0))) := by unfold wr; rw [h2]; rfl
      rw [this]
      exact (take_wire p.1 _ hb).1
theorem deliver_inv {c : Nat} {Q : List (Nat × Nat)} {B R : Nat} {g : List (Nat × List Nat)} {u : List (Nat × Bool)} {s : Int} {f : List S68} {r e : Int} {h w : List (List Int)} {a : List Int} (H : LK s f r e h w a) (I : Inv c Q B R g u s f e h w a) (hc : c ≤ 3) (k : Nat) (hk : 3000000 < k) :
    (g = [] ∧ impl_Link_deliver.f k s f r e h w a = some (false, s, f, r, e, h, w, a)) ∨
    (∃ (p : Nat × List Nat) (g' : List (Nat × List Nat)) (R' : Nat) (u' : List (Nat × Bool)) (e' : Int) (h' w' : List (List Int)) (a' : List Int), g = p :: g' ∧ impl_Link_deliver.f k s f r e h w a = some (true, s, f, r, e', h', w', a') ∧ LK s f r e' h' w' a' ∧ Inv c Q B R' g' u' s f e' h' w' a' ∧ R ≤ R' ∧ (p.2 = [] → p.1 ≤ R → p.1 + 1 ≤ R') ∧ (u.length < 8 → ∃ t, u' = u ++ [(R', t)])) := by
  have H0 := H
  have hlf := len_f I
  obtain ⟨h1, h2, h3, h4, h5, h6⟩ := H
  obtain ⟨b0, s0, f0, r0, e0, h0, w0, a0, q0, g0, _⟩ := deliver_ok H0 k hk
  obtain ⟨⟨⟨i1, i2, i3, i4⟩, i5, i6, i7, i8⟩, ⟨i9, i10, i11⟩, ⟨i12, i13, i14⟩⟩ := I
  cases g with
  | nil =>
    left
    subst i9
    exact ⟨rfl, by unfold impl_Link_deliver.f; rw [if_pos (by simp)]⟩
  | cons p g' =>
    right
    have hw : w = wr Q p :: g'.map (wr Q) := i9
    have hw1 : (w.length : Int) ≠ 0 := by rw [hw, List.length_cons]; omega
    have hw0 : (0 : Int) < (w.length : Int) := by omega
    have hr0 : rdl_ w 0 = wr Q p := by rw [hw]; rfl
    have her : w.eraseIdx (Int.toNat 0) = g'.map (wr Q) := by rw [hw]; rfl
    have hp := i10 p (by simp)
    have hnf := h1.2.1
    obtain ⟨R', e', h', v, e1, e2, e3, e4, e5, e6⟩ := tf_inv (c := c) h2 hc i1 i2 i4 i7 i8 p hp (by omega)
    have hbl : (wr Q p).length ≤ 1048576 := by
      have := bytes_small (h4 (wr Q p) (by rw [hw]; simp))
      omega
    have e7 : impl_TakeFrame.f k e h (rdl_ w 0) = some (e', h', v) := by
      rw [hr0, iTake_ev e h _ (by have := h2.2.1; omega) hbl (rows_small h2.2.2) k (by omega), e1]
    have hRO : RO e' h' := by
      obtain ⟨e9, h9, v9, q9, g9⟩ := take_ok h2 (rdl_ w 0) (by rw [hr0]; exact hbl) k hk
      rw [e7] at q9
      simp only [Option.some.injEq, Prod.mk.injEq] at q9
      obtain ⟨rfl, rfl, rfl⟩ := q9
      exact g9
    have hRR : R ≤ R' := by omega
    -- what stays in flight
    have n1 : ∀ q ∈ g', q.1 < Q.length ∧ R' ≤ q.1 + 7 ∧ q.2.length ≤ c ∧ ∀ n ∈ q.2, n < 40 := by
      intro q hq
      have g1 := i10 q (by simp [hq])
      rw [List.map_cons, List.pairwise_cons] at i11
      have g2 := i11.1 q.1 (List.mem_map.mpr ⟨q, hq, rfl⟩)
      exact ⟨g1.1, by omega, g1.2.2⟩
    have n2 : (g'.map (fun p => p.1)).Pairwise (fun i j => i ≤ j + 6) := by
      rw [List.map_cons, List.pairwise_cons] at i11
      exact i11.2
    have hal : a.length = u.length := by rw [i12, List.length_map]
    have fin : ∀ (u' : List (Nat × Bool)) (a' : List Int), impl_Link_deliver.f k s f r e h w a = some (true, s, f, r, e', h', g'.map (wr Q), a') → a' = u'.map an → (∀ p ∈ u', B ≤ p.1 ∧ p.1 ≤ R') → (u'.map (fun p => p.1)).Pairwise (fun i j => i ≤ j) → (u.length < 8 → ∃ t, u' = u ++ [(R', t)]) →
        ∃ (p' : Nat × List Nat) (g2 : List (Nat × List Nat)) (R' : Nat) (u' : List (Nat × Bool)) (e' : Int) (h' w' : List (List Int)) (a' : List Int), p :: g' = p' :: g2 ∧ impl_Link_deliver.f k s f r e h w a = some (true, s, f, r, e', h', w', a') ∧ LK s f r e' h' w' a' ∧ Inv c Q B R' g2 u' s f e' h' w' a' ∧ R ≤ R' ∧ (p'.2 = [] → p'.1 ≤ R → p'.1 + 1 ≤ R') ∧ (u.length < 8 → ∃ t, u' = u ++ [(R', t)]) := by
      intro u' a' z1 z2 z3 z4 z5
      rw [z1] at q0
      simp only [Option.some.injEq, Prod.mk.injEq] at q0
      obtain ⟨rfl, rfl, rfl, rfl, rfl, rfl, rfl, rfl⟩ := q0
      refine ⟨p, g', R', u', _, _, _, _, rfl, z1, g0, ⟨⟨⟨i1, i2, by omega, e4⟩, i5, i6, e2, e3⟩, ⟨rfl, n1, n2⟩, ⟨z2, z3, z4⟩⟩, hRR, fun y1 y2 => ?_, z5⟩
      rcases Nat.lt_or_ge p.1 R with y3 | y3
      · omega
      · have := e6 y1 (by omega); omega
    by_cases ha : (a.length : Int) < 8
    · have hak := ack_ev hRO k hk
      have hav : (e' + 15) % 16 = (((R' + 15) % 16 : Nat) : Int) := by rw [e2]; omega
      have pw : ∀ t : Bool, ((u ++ [(R', t)]).map (fun p => p.1)).Pairwise (fun i j => i ≤ j) := by
        intro t
        rw [List.map_append, List.pairwise_append]
        refine ⟨i14, by simp, fun i hi j hj => ?_⟩
        rw [List.mem_map] at hi hj
        obtain ⟨x, hx, rfl⟩ := hi
        obtain ⟨y, hy, rfl⟩ := hj
        rw [List.mem_singleton] at hy
        subst hy
        have := (i13 x hx).2
        show x.1 ≤ R'
        omega
      have bd : ∀ t : Bool, ∀ p ∈ u ++ [(R', t)], B ≤ p.1 ∧ p.1 ≤ R' := by
        intro t x hx
        rw [List.mem_append, List.mem_singleton] at hx
        rcases hx with hx | rfl
        · have := i13 x hx; omega
        · exact ⟨by show B ≤ R'; omega, Nat.le_refl _⟩
      have go : ∀ (t : Bool) (x : Int), x = an (R', t) → impl_Link_deliver.f k s f r e h w a = some (true, s, f, r, e', h', g'.map (wr Q), a ++ [x]) → ∃ (p' : Nat × List Nat) (g2 : List (Nat × List Nat)) (R' : Nat) (u' : List (Nat × Bool)) (e' : Int) (h' w' : List (List Int)) (a' : List Int), p :: g' = p' :: g2 ∧ impl_Link_deliver.f k s f r e h w a = some (true, s, f, r, e', h', w', a') ∧ LK s f r e' h' w' a' ∧ Inv c Q B R' g2 u' s f e' h' w' a' ∧ R ≤ R' ∧ (p'.2 = [] → p'.1 ≤ R → p'.1 + 1 ≤ R') ∧ (u.length < 8 → ∃ t, u' = u ++ [(R', t)]) := by
        intro t x hx hf
        exact fin (u ++ [(R', t)]) (a ++ [x]) hf (by rw [List.map_append, i12, hx]; rfl) (bd t) (pw t) (fun _ => ⟨t, rfl⟩)
      by_cases v2 : v = 2
      · refine go true ((((R' + 15) % 16 : Nat) : Int) + 100) (by unfold an; rw [if_pos rfl]) ?_
        unfold impl_Link_deliver.f
        rw [if_neg hw1, if_pos (Int.le_refl 0), if_pos hw0, e7]
        simp only [Option.bind_some]
        rw [if_pos (Int.le_refl 0), if_pos hw0, if_pos ha, hak]
        simp only [Option.bind_some]
        rw [if_pos v2, if_pos (by omega), hav, wrap_id _ (by omega), her]
      by_cases v3 : v = 3
      · refine go true ((((R' + 15) % 16 : Nat) : Int) + 100) (by unfold an; rw [if_pos rfl]) ?_
        unfold impl_Link_deliver.f
        rw [if_neg hw1, if_pos (Int.le_refl 0), if_pos hw0, e7]
        simp only [Option.bind_some]
        rw [if_pos (Int.le_refl 0), if_pos hw0, if_pos ha, hak]
        simp only [Option.bind_some]
        rw [if_neg v2, if_pos v3, if_pos (by omega), hav, wrap_id _ (by omega), her]
      · refine go false (((R' + 15) % 16 : Nat) : Int) (by unfold an; rw [if_neg (by simp), Int.add_zero]) ?_
        unfold impl_Link_deliver.f
        rw [if_neg hw1, if_pos (Int.le_refl 0), if_pos hw0, e7]
        simp only [Option.bind_some]
        rw [if_pos (Int.le_refl 0), if_pos hw0, if_pos ha, hak]
        simp only [Option.bind_some]
        rw [if_neg v2, if_neg v3, if_pos (by omega), hav, her]
    · refine fin u a ?_ i12 (fun x hx => by have := i13 x hx; omega) i14 (fun hx => by omega)
      unfold impl_Link_deliver.f
      rw [if_neg hw1, if_pos (Int.le_refl 0), if_pos hw0, e7]
      simp only [Option.bind_some]
      rw [if_pos (Int.le_refl 0), if_pos hw0, if_neg ha, her]
/-! ### Answers -/
theorem ix_none (f : List S68) (q : Int) (hl : f.length ≤ 7) (hn : ∀ (j : Nat) (hj : j < f.length), f[j].f0 ≠ q) (d : Nat) : ∀ i : Nat, i + d = f.length → ∀ k, d < k → impl_TakeAck_ix.l0 k f q (f.length : Int) (i : Int) = some (-1) := by
  induction d with
  | zero =>
    intro i hi k hk
    obtain ⟨k, rfl⟩ : ∃ m, k = m + 1 := ⟨k - 1, by omega⟩
    simp only [impl_TakeAck_ix.l0]
    rw [if_neg (by omega)]
  | succ d ih =>
    intro i hi k hk
    obtain ⟨k, rfl⟩ : ∃ m, k = m + 1 := ⟨k - 1, by omega⟩
    simp only [impl_TakeAck_ix.l0]
    rw [if_pos (by omega), if_pos (by omega), if_pos (by omega), rdG_lt f i (by omega), if_neg (hn i (by omega)), wrap_succ i (by omega)]
    exact ih (i + 1) (by omega) k (by omega)
theorem ix_some (f : List S68) (q : Int) (m : Nat) (hl : f.length ≤ 7) (hm : m < f.length) (hq : f[m].f0 = q) (hn : ∀ (j : Nat) (hj : j < m), f[j].f0 ≠ q) (d : Nat) : ∀ i : Nat, i + d = m → ∀ k, d < k → impl_TakeAck_ix.l0 k f q (f.length : Int) (i : Int) = some (m : Int) := by
  induction d with
  | zero =>
    intro i hi k hk
    obtain ⟨k, rfl⟩ : ∃ m, k = m + 1 := ⟨k - 1, by omega⟩
    obtain rfl : i = m := by omega
    simp only [impl_TakeAck_ix.l0]
    rw [if_pos (by omega), if_pos (by omega), if_pos (by omega), rdG_lt f i hm, if_pos hq]
  | succ d ih =>
    intro i hi k hk
    obtain ⟨k, rfl⟩ : ∃ m, k = m + 1 := ⟨k - 1, by omega⟩
    simp only [impl_TakeAck_ix.l0]
    rw [if_pos (by omega), if_pos (by omega), if_pos (by omega), rdG_lt f i (by omega), if_neg (hn i (by omega)), wrap_succ i (by omega)]
    exact ih (i + 1) (by omega) k (by omega)
theorem ack_inv {s : Int} {r : Int} (Q : List (Nat × Nat)) (B P : Nat) (H : SO s (fr B (Q.drop B)) r) (hB : B ≤ P) (hP : P ≤ Q.length) (k : Nat) (hk : 3000000 < k) : ∃ r' o, impl_TakeAck.f k s (fr B (Q.drop B)) r (((P + 15) % 16 : Nat) : Int) = some (s, fr P (Q.drop P), r', o) := by
  have hlf : (fr B (Q.drop B)).length = Q.length - B := by rw [fr_len, List.length_drop]
  have h7 := H.2.1
  have hf0 : ∀ (j : Nat) (hj : j < (fr B (Q.drop B)).length), ((fr B (Q.drop B))[j]).f0 = (((B + j) % 16 : Nat) : Int) := by
    intro j hj
    rw [fr_get (Q.drop B) B j hj (by rw [List.length_drop]; omega)]
  unfold impl_TakeAck.f
  rw [copyS_ev s _ r (by omega) (so_small H) k (by omega)]
  simp only [Option.bind_some]
  rcases Nat.lt_or_ge B P with hlt | hge
  · have e1 : impl_TakeAck_ix.f k (fr B (Q.drop B)) (((P + 15) % 16 : Nat) : Int) = some ((P - 1 - B : Nat) : Int) := ix_some _ _ (P - 1 - B) h7 (by omega) (by rw [hf0]; omega) (fun j hj => by rw [hf0 j (by omega)]; omega) (P - 1 - B) 0 (by omega) k (by omega)
    rw [e1]
    simp only [Option.bind_some]
    rw [so_ev H k hk]
    simp only [Option.bind_some]
    rw [if_pos (by trivial), if_neg (by omega), if_pos (by omega), if_pos (by omega), if_pos (by omega), Int.toNat_natCast, fr_drop, List.drop_drop, show B + (P - 1 - B + 1) = P from by omega]
    exact ⟨_, _, rfl⟩
  · have e1 : impl_TakeAck_ix.f k (fr B (Q.drop B)) (((P + 15) % 16 : Nat) : Int) = some (-1) := ix_none _ _ h7 (fun j hj => by rw [hf0 j hj]; omega) (fr B (Q.drop B)).length 0 (by omega) k (by omega)
    rw [e1]
    simp only [Option.bind_some]
    rw [so_ev H k hk]
    simp only [Option.bind_some]
    rw [if_pos (by trivial), if_pos (by omega), show P = B from by omega]
    exact ⟨_, _, rfl⟩
theorem answer_inv {c : Nat} {Q : List (Nat × Nat)} {B R : Nat} {g : List (Nat × List Nat)} {u : List (Nat × Bool)} {s : Int} {f : List S68} {r e : Int} {h w : List (List Int)} {a : List Int} (H : LK s f r e h w a) (I : Inv c Q B R g u s f e h w a) (k : Nat) (hk : 3000000 < k) :
    (u = [] ∧ impl_Link_answer.f k s f r e h w a = some (false, s, f, r, e, h, w, a)) ∨
    (∃ (p : Nat × Bool) (u' : List (Nat × Bool)) (f' : List S68) (r' : Int) (a' : List Int), u = p :: u' ∧ impl_Link_answer.f k s f r e h w a = some (true, s, f', r', e, h, w, a') ∧ LK s f' r' e h w a' ∧ Inv c Q p.1 R g u' s f' e h w a') := by
  have H0 := H
  obtain ⟨h1, h2, h3, h4, h5, h6⟩ := H
  obtain ⟨b0, s0, f0, r0, e0, h0, w0, a0, q0, g0, _⟩ := answer_ok H0 k hk
  obtain ⟨⟨⟨i1, i2, i3, i4⟩, i5, i6, i7, i8⟩, j1, ⟨i12, i13, i14⟩⟩ := I
  cases u with
  | nil =>
    left
    subst i12
    exact ⟨rfl, by unfold impl_Link_answer.f; rw [if_pos (by simp)]⟩
  | cons p u' =>
    right
    have ha : a = an p :: u'.map an := i12
    have ha1 : (a.length : Int) ≠ 0 := by rw [ha, List.length_cons]; omega
    have ha0 : (0 : Int) < (a.length : Int) := by omega
    have hr0 : rd a 0 = an p := by rw [ha]; rfl
    have her : a.eraseIdx (Int.toNat 0) = u'.map an := by rw [ha]; rfl
    have hp := i13 p (by simp)
    have hmod : Int.tmod (an p) 100 = (((p.1 + 15) % 16 : Nat) : Int) := by
      unfold an
      split
      · rw [Int.tmod_eq_emod_of_nonneg (by omega)]; omega
      · rw [Int.tmod_eq_emod_of_nonneg (by omega)]; omega
    subst i6
    obtain ⟨r1, o1, e1⟩ := ack_inv Q B p.1 h1 hp.1 (by omega) k hk
    have hS : SO s (fr p.1 (Q.drop p.1)) r1 := by
      obtain ⟨s9, f9, r9, o9, q9, g9⟩ := ack_ok h1 (((p.1 + 15) % 16 : Nat) : Int) k hk
      rw [e1] at q9
      simp only [Option.some.injEq, Prod.mk.injEq] at q9
      obtain ⟨rfl, rfl, rfl, rfl⟩ := q9
      exact g9
    have pw : (∀ x ∈ u', p.1 ≤ x.1 ∧ x.1 ≤ R) ∧ (u'.map (fun p => p.1)).Pairwise (fun i j => i ≤ j) := by
      rw [List.map_cons, List.pairwise_cons] at i14
      exact ⟨fun x hx => ⟨i14.1 x.1 (List.mem_map.mpr ⟨x, hx, rfl⟩), (i13 x (by simp [hx])).2⟩, i14.2⟩
    have fin : ∀ r' : Int, impl_Link_answer.f k s (fr B (Q.drop B)) r e h w a = some (true, s, fr p.1 (Q.drop p.1), r', e, h, w, u'.map an) → ∃ (p' : Nat × Bool) (u2 : List (Nat × Bool)) (f' : List S68) (r' : Int) (a' : List Int), p :: u' = p' :: u2 ∧ impl_Link_answer.f k s (fr B (Q.drop B)) r e h w a = some (true, s, f', r', e, h, w, a') ∧ LK s f' r' e h w a' ∧ Inv c Q p'.1 R g u2 s f' e h w a' := by
      intro r' z1
      rw [z1] at q0
      simp only [Option.some.injEq, Prod.mk.injEq] at q0
      obtain ⟨rfl, rfl, rfl, rfl, rfl, rfl, rfl, rfl⟩ := q0
      exact ⟨p, u', _, _, _, rfl, z1, g0, ⟨⟨⟨i1, i2, hp.2, i4⟩, i5, rfl, i7, i8⟩, j1, ⟨rfl, pw.1, pw.2⟩⟩⟩
    by_cases hn : 100 ≤ an p
    · obtain ⟨e2, _⟩ := replay_ok hS k hk
      refine fin 0 ?_
      unfold impl_Link_answer.f
      rw [if_neg ha1, if_pos (Int.le_refl 0), if_pos ha0, if_pos (Int.le_refl 0), if_pos ha0, hr0, hmod, e1]
      simp only [Option.bind_some]
      rw [if_pos hn, e2, her]
      rfl
    · refine fin r1 ?_
      unfold impl_Link_answer.f
      rw [if_neg ha1, if_pos (Int.le_refl 0), if_pos ha0, if_pos (Int.le_refl 0), if_pos ha0, hr0, hmod, e1]
      simp only [Option.bind_some]
      rw [if_neg hn, her]
/-! ### Steps -/
theorem queue_ev {s : Int} {f : List S68} {r : Int} (H : SO s f r) (b : List Int) (hb : bytesB b = true) (k : Nat) (hk : 3000000 < k) : (f.length = 7 ∧ impl_QueueFrame.f k s f r b = some (s, f, r, false)) ∨ (f.length < 7 ∧ impl_QueueFrame.f k s f r b = some ((s + 1) % 16, f ++ [(⟨s, b⟩ : S68)], r, true)) := by
  unfold impl_QueueFrame.f
  rw [copyS_ev s f r (by have := H.2.1; omega) (so_small H) k (by omega)]
  simp only [Option.bind_some]
  rw [so_ev H k hk]
  simp only [Option.bind_some]
  rw [if_pos (by trivial), iAreBytes_ev b k (by omega)]
  simp only [Option.bind_some]
  rw [if_pos hb]
  by_cases h7 : (f.length : Int) = 7
  · left
    rw [if_pos h7]; exact ⟨by omega, rfl⟩
  right
  rw [if_neg h7, clone_ev b (by have := bytes_small hb; omega)]
  simp only [Option.bind_some]
  have h2 := H.2.1
  rw [if_pos (by omega), iNext_ev, nx_ev s H.1]
  exact ⟨by omega, rfl⟩
theorem word_pay (n : Int) (hn : 0 ≤ n ∧ n ≤ 65535) : ([wrap64 (Int.tdiv n 256), Int.tmod n 256] : List Int) = pay ((n / 256).toNat, (n % 256).toNat) ∧ (n / 256).toNat < 256 ∧ (n % 256).toNat < 256 := by
  have hd : Int.tdiv n 256 = n / 256 := Int.tdiv_eq_ediv_of_nonneg hn.1
  have hm : Int.tmod n 256 = n % 256 := Int.tmod_eq_emod_of_nonneg hn.1
  refine ⟨?_, by omega, by omega⟩
  rw [hd, hm, wrap_id _ (by omega)]
  unfold pay
  rw [show (((n / 256).toNat : Nat) : Int) = n / 256 from by omega, show (((n % 256).toNat : Nat) : Int) = n % 256 from by omega]
theorem inv_queue {c : Nat} {Q : List (Nat × Nat)} {B R : Nat} {g : List (Nat × List Nat)} {u : List (Nat × Bool)} {s : Int} {f : List S68} {e : Int} {h w : List (List Int)} {a : List Int} (I : Inv c Q B R g u s f e h w a) (b : Nat × Nat) (hb : b.1 < 256 ∧ b.2 < 256) (hQ : Q.length < 400) : Inv c (Q ++ [b]) B R g u ((s + 1) % 16) (f ++ [(⟨s, pay b⟩ : S68)]) e h w a := by
  obtain ⟨⟨⟨i1, i2, i3, i4⟩, i5, i6, i7, i8⟩, ⟨i9, i10, i11⟩, i12⟩ := I
  have hl : (Q ++ [b]).length = Q.length + 1 := by rw [List.length_append, List.length_singleton]
  refine ⟨⟨⟨by omega, fun x hx => ?_, i3, by omega⟩, ?_, ?_, i7, ?_⟩, ⟨?_, fun p hp => ?_, i11⟩, i12⟩
  · rw [List.mem_append, List.mem_singleton] at hx
    rcases hx with hx | rfl
    · exact i2 x hx
    · exact hb
  · rw [hl, i5]; omega
  · rw [List.drop_append_of_le_length (by omega), fr_app, i6, i5, List.length_drop, show B + (Q.length - B) = Q.length from by omega]
  · rw [List.take_append_of_le_length i4]; exact i8
  · rw [i9]
    refine List.map_congr_left (fun p hp => ?_)
    have hp1 := (i10 p hp).1
    unfold wr
    rw [List.getD_eq_getElem?_getD, List.getD_eq_getElem?_getD, List.getElem?_append_left hp1]
  · have := i10 p hp
    exact ⟨by omega, this.2⟩
theorem set_fst (g : List (Nat × List Nat)) (j : Nat) (x : List Nat) (hj : j < g.length) : (g.set j (g[j].1, x)).map (fun p => p.1) = g.map (fun p => p.1) := by
  rw [List.map_set]
  apply List.ext_getElem
  · rw [List.length_set]
  · intro i h1 h2
    rw [List.getElem_set]
    split
    · next h => subst h; rw [List.getElem_map]
    · rfl
theorem erase_map {α β : Type} (f : α → β) (l : List α) : ∀ i : Nat, (l.map f).eraseIdx i = (l.eraseIdx i).map f := by
  induction l with
  | nil => intro i; rfl
  | cons a l ih =>
    intro i
    cases i with
    | zero => rfl
    | succ i => rw [List.map_cons, List.eraseIdx_cons_succ, List.eraseIdx_cons_succ, List.map_cons, ih]
theorem flip_neg (b : List Int) (n : Int) (hb : bytesB b = true) (hn : n < 0) (k : Nat) (hk : 3000000 < k) : ∃ y, impl_FlipBit.f k b n = some y ∧ y = b := by
  have hl := bytes_small hb
  unfold impl_FlipBit.f
  rw [clone_ev b (by omega)]
  simp only [Option.bind_some]
  rw [iAreBytes_ev b k (by omega), hb]
  simp only [Option.bind_some]
  rw [if_pos (by trivial), within_eq, wrap_id (8 * (b.length : Int)) (by omega), wrap_id (8 * (b.length : Int) - 1) (by omega)]
  simp only [Option.bind_some, decide_eq_true_eq]
  rw [if_neg (by omega)]
  exact ⟨_, rfl, rfl⟩
theorem inv_damage {c : Nat} {Q : List (Nat × Nat)} {B R : Nat} {g : List (Nat × List Nat)} {u : List (Nat × Bool)} {s : Int} {f : List S68} {e : Int} {h w : List (List Int)} {a : List Int} (I : Inv c Q B R g u s f e h w a) (j n : Nat) (hj : j < g.length) (hn : n < 40) : Inv (c + 1) Q B R (g.set j (g[j].1, g[j].2 ++ [n])) u s f e h (w.set j (toI (fl (fls (wireN g[j].1 (Q.getD g[j].1 (0, 0))) g[j].2) n))) a := by
  obtain ⟨i1, ⟨i9, i10, i11⟩, i12⟩ := I
  refine ⟨i1, ⟨?_, fun p hp => ?_, ?_⟩, i12⟩
  · rw [List.map_set, i9]
    congr 1
    unfold wr fls
    rw [List.foldl_append]
    rfl
  · rcases List.mem_or_eq_of_mem_set hp with hp | rfl
    · have := i10 p hp
      exact ⟨this.1, this.2.1, by omega, this.2.2.2⟩
    · have := i10 g[j] (List.getElem_mem hj)
      refine ⟨this.1, this.2.1, ?_, fun m hm => ?_⟩
      · show (g[j].2 ++ [n]).length ≤ c + 1
        rw [List.length_append, List.length_singleton]; omega
      · have hm2 : m ∈ g[j].2 ++ [n] := hm
        rw [List.mem_append, List.mem_singleton] at hm2
        rcases hm2 with hm2 | rfl
        · exact this.2.2.2 m hm2
        · exact hn
  · rw [set_fst]; exact i11
theorem damage_inv {c : Nat} {Q : List (Nat × Nat)} {B R : Nat} {g : List (Nat × List Nat)} {u : List (Nat × Bool)} {s : Int} {f : List S68} {r e : Int} {h w : List (List Int)} {a : List Int} (H : LK s f r e h w a) (I : Inv c Q B R g u s f e h w a) (n : Int) (k : Nat) (hk : 3000000 < k) :
    ∃ (b : Bool) (g' : List (Nat × List Nat)) (w' : List (List Int)), impl_Link_damage.f k s f r e h w a n = some (b, s, f, r, e, h, w', a) ∧ LK s f r e h w' a ∧ Inv (c + 1) Q B R g' u s f e h w' a := by
  have H0 := H
  have I0 := I
  obtain ⟨h1, h2, h3, h4, h5, h6⟩ := H
  obtain ⟨b0, s0, f0, r0, e0, h0, w0, a0, q0, g0⟩ := damage_ok H0 n k hk
  obtain ⟨⟨⟨i1, i2, i3, i4⟩, i5⟩, ⟨i9, i10, i11⟩, i12⟩ := I
  by_cases hn : n < 0
  · exact ⟨false, g, w, by unfold impl_Link_damage.f; rw [if_pos hn], H0, inv_mono (by omega) I0⟩
  have htm : Int.tmod n 8 = n % 8 := Int.tmod_eq_emod_of_nonneg (by omega)
  by_cases hw : (w.length : Int) ≤ n % 8
  · exact ⟨false, g, w, by unfold impl_Link_damage.f; rw [if_neg hn, htm, if_pos hw], H0, inv_mono (by omega) I0⟩
  by_cases hq : wrap64 (8 * ((rdl_ w (n % 8)).length : Int)) ≤ wrap64 (Int.tdiv n 8)
  · exact ⟨false, g, w, by unfold impl_Link_damage.f; rw [if_neg hn, htm, if_neg hw, if_pos (by omega), if_pos (by omega), if_pos hq], H0, inv_mono (by omega) I0⟩
  obtain ⟨j, ej⟩ : ∃ j : Nat, n % 8 = (j : Int) := ⟨(n % 8).toNat, by omega⟩
  have hwl : w.length = g.length := by rw [i9, List.length_map]
  have hj : j < g.length := by omega
  have hp := i10 g[j] (List.getElem_mem hj)
  have h5w := fls_w5 g[j].2 _ (wire_w5 g[j].1 _ (qd i2 _ hp.1)) hp.2.2.2
  have hrd : rdl_ w (n % 8) = toI (fls (wireN g[j].1 (Q.getD g[j].1 (0, 0))) g[j].2) := by
    rw [ej]
    unfold rdl_
    rw [Int.toNat_natCast, List.getD_eq_getElem?_getD, List.getElem?_eq_getElem (by omega), Option.getD_some]
    subst i9
    rw [List.getElem_map]
    rfl
  have hlen : (rdl_ w (n % 8)).length = 5 := by rw [hrd]; unfold toI; rw [List.length_map]; exact h5w.1
  have htd : Int.tdiv n 8 = n / 8 := Int.tdiv_eq_ediv_of_nonneg (by omega)
  rw [hlen, htd, wrap_id (8 * ((5 : Nat) : Int)) (by omega)] at hq
  by_cases hd0 : wrap64 (n / 8) < 0
  · obtain ⟨y, e1, e2⟩ := flip_neg (rdl_ w (n % 8)) (wrap64 (n / 8)) (by rw [hrd]; exact toI_bytes h5w) hd0 k hk
    have e4 : w.set (n % 8).toNat (rdl_ w (n % 8)) = w := by
      rw [ej]
      unfold rdl_
      rw [Int.toNat_natCast, List.getD_eq_getElem?_getD, List.getElem?_eq_getElem (by omega), Option.getD_some, List.set_getElem_self]
    refine ⟨true, g, w, ?_, H0, inv_mono (by omega) I0⟩
    unfold impl_Link_damage.f
    rw [if_neg hn, htm, if_neg hw, if_pos (by omega), if_pos (by omega), htd, hlen, wrap_id (8 * ((5 : Nat) : Int)) (by omega), if_neg hq, e1, e2]
    simp only [Option.bind_some]
    rw [e4]
  obtain ⟨m, em⟩ : ∃ m : Nat, wrap64 (n / 8) = (m : Int) := ⟨(wrap64 (n / 8)).toNat, by omega⟩
  have hm : m < 40 := by omega
  have e3 : impl_Link_damage.f k s f r e h w a n = some (true, s, f, r, e, h, w.set j (toI (fl (fls (wireN g[j].1 (Q.getD g[j].1 (0, 0))) g[j].2) m)), a) := by
    unfold impl_Link_damage.f
    rw [if_neg hn, htm, if_neg hw, if_pos (by omega), if_pos (by omega), hlen, htd, wrap_id (8 * ((5 : Nat) : Int)) (by omega), if_neg hq, hrd, em, flip_ev _ m h5w hm k hk, ej, Int.toNat_natCast]
    rfl
  rw [e3] at q0
  simp only [Option.some.injEq, Prod.mk.injEq] at q0
  obtain ⟨rfl, rfl, rfl, rfl, rfl, rfl, rfl, rfl⟩ := q0
  exact ⟨_, _, _, e3, g0, inv_damage I0 j m hj hm⟩
theorem step_inv {c : Nat} {Q : List (Nat × Nat)} {B R : Nat} {g : List (Nat × List Nat)} {u : List (Nat × Bool)} {s : Int} {f : List S68} {r e : Int} {h w : List (List Int)} {a : List Int} (H : LK s f r e h w a) (I : Inv c Q B R g u s f e h w a) (hc : c ≤ 3) (hQ : Q.length < 400) (t n : Int) (k : Nat) (hk : 3000000 < k) :
    ∃ (b : Bool) (s' : Int) (f' : List S68) (r' e' : Int) (h' w' : List (List Int)) (a' : List Int), impl_Link_step.f k s f r e h w a t n = some (b, s', f', r', e', h', w', a') ∧ LK s' f' r' e' h' w' a' ∧
      (t = 7 → b = true → 0 ≤ n ∧ n ≤ 65535 ∧ ∃ B' R' g' u', Inv c (Q ++ [((n / 256).toNat, (n % 256).toNat)]) B' R' g' u' s' f' e' h' w' a') ∧ (¬(t = 7 ∧ b = true) → ∃ B' R' g' u', Inv (if t = 4 then c + 1 else c) Q B' R' g' u' s' f' e' h' w' a') ∧ (t = 7 → 0 ≤ n → n ≤ 65535 → f.length < 7 → b = true) := by
  have H0 := H
  obtain ⟨h1, h2, h3, h4, h5, h6⟩ := H
  have no : ∀ {b : Bool} {X : Prop}, t ≠ 7 → (t = 7 → b = true → X) := fun hn ht => absurd ht hn
  have same : ∀ b : Bool, (t = 7 → b = false) → (t = 7 → 0 ≤ n → n ≤ 65535 → f.length < 7 → b = true) → impl_Link_step.f k s f r e h w a t n = some (b, s, f, r, e, h, w, a) → ∃ (b : Bool) (s' : Int) (f' : List S68) (r' e' : Int) (h' w' : List (List Int)) (a' : List Int), impl_Link_step.f k s f r e h w a t n = some (b, s', f', r', e', h', w', a') ∧ LK s' f' r' e' h' w' a' ∧
      (t = 7 → b = true → 0 ≤ n ∧ n ≤ 65535 ∧ ∃ B' R' g' u', Inv c (Q ++ [((n / 256).toNat, (n % 256).toNat)]) B' R' g' u' s' f' e' h' w' a') ∧ (¬(t = 7 ∧ b = true) → ∃ B' R' g' u', Inv (if t = 4 then c + 1 else c) Q B' R' g' u' s' f' e' h' w' a') ∧ (t = 7 → 0 ≤ n → n ≤ 65535 → f.length < 7 → b = true) :=
    fun b hb1 hb2 hf => ⟨b, s, f, r, e, h, w, a, hf, H0, (by intro ht hb; rw [hb1 ht] at hb; cases hb), fun _ => ⟨B, R, g, u, inv_mono (by split <;> omega) I⟩, hb2⟩
  by_cases c7 : t = 7
  · by_cases hn : 0 ≤ n ∧ n ≤ 65535
    · have hp := word_pay n hn
      rcases queue_ev h1 (pay ((n / 256).toNat, (n % 256).toNat)) (pay_bytes _ hp.2) k hk with ⟨q1, q2⟩ | ⟨q1, q2⟩
      · refine same false (fun _ => rfl) (fun _ _ _ hx => by omega) ?_
        unfold impl_Link_step.f
        rw [if_pos c7]
        unfold impl_isWord.f
        rw [within_eq]
        simp only [Option.bind_some, decide_eq_true_eq]
        rw [if_pos hn, hp.1, q2]
        rfl
      · have e3 : impl_Link_step.f k s f r e h w a t n = some (true, (s + 1) % 16, f ++ [(⟨s, pay ((n / 256).toNat, (n % 256).toNat)⟩ : S68)], r, e, h, w, a) := by
          unfold impl_Link_step.f
          rw [if_pos c7]
          unfold impl_isWord.f
          rw [within_eq]
          simp only [Option.bind_some, decide_eq_true_eq]
          rw [if_pos hn, hp.1, q2]
          rfl
        obtain ⟨b0, s0, f0, r0, e0, h0, w0, a0, q0, g0⟩ := step_ok H0 t n k hk
        rw [e3] at q0
        simp only [Option.some.injEq, Prod.mk.injEq] at q0
        obtain ⟨rfl, rfl, rfl, rfl, rfl, rfl, rfl, rfl⟩ := q0
        exact ⟨_, _, _, _, _, _, _, _, e3, g0, fun _ _ => ⟨hn.1, hn.2, B, R, g, u, inv_queue I _ hp.2 hQ⟩, fun hx => absurd ⟨c7, rfl⟩ hx, fun _ _ _ _ => rfl⟩
    · refine same false (fun _ => rfl) (fun _ x1 x2 _ => absurd ⟨x1, x2⟩ hn) ?_
      unfold impl_Link_step.f
      rw [if_pos c7]
      unfold impl_isWord.f
      rw [within_eq]
      simp only [Option.bind_some, decide_eq_true_eq]
      rw [if_neg hn]
  have no7 : ∀ {X : Prop}, t = 7 → X := fun ht => absurd ht c7
  have done : ∀ (b : Bool) (s' : Int) (f' : List S68) (r' e' : Int) (h' w' : List (List Int)) (a' : List Int) (c' B' R' : Nat) (g' : List (Nat × List Nat)) (u' : List (Nat × Bool)), c' ≤ (if t = 4 then c + 1 else c) → impl_Link_step.f k s f r e h w a t n = some (b, s', f', r', e', h', w', a') → LK s' f' r' e' h' w' a' → Inv c' Q B' R' g' u' s' f' e' h' w' a' → ∃ (b : Bool) (s' : Int) (f' : List S68) (r' e' : Int) (h' w' : List (List Int)) (a' : List Int), impl_Link_step.f k s f r e h w a t n = some (b, s', f', r', e', h', w', a') ∧ LK s' f' r' e' h' w' a' ∧
      (t = 7 → b = true → 0 ≤ n ∧ n ≤ 65535 ∧ ∃ B' R' g' u', Inv c (Q ++ [((n / 256).toNat, (n % 256).toNat)]) B' R' g' u' s' f' e' h' w' a') ∧ (¬(t = 7 ∧ b = true) → ∃ B' R' g' u', Inv (if t = 4 then c + 1 else c) Q B' R' g' u' s' f' e' h' w' a') ∧ (t = 7 → 0 ≤ n → n ≤ 65535 → f.length < 7 → b = true) :=
    fun b s' f' r' e' h' w' a' c' B' R' g' u' hc' hf hl hi => ⟨b, s', f', r', e', h', w', a', hf, hl, fun ht => no7 ht, fun _ => ⟨B', R', g', u', inv_mono hc' hi⟩, fun ht => no7 ht⟩
  by_cases c1 : t = 1
  · rcases send_inv H0 I k hk with ⟨_, q2⟩ | ⟨m, w', _, _, _, q2, q3, _, q4⟩
    · exact same false (fun ht => no7 ht) (fun ht => no7 ht) (by unfold impl_Link_step.f; rw [if_neg c7, if_pos c1, q2]; rfl)
    · exact done _ _ _ _ _ _ _ _ c _ _ _ _ (by split <;> omega) (by unfold impl_Link_step.f; rw [if_neg c7, if_pos c1, q2]; rfl) q3 q4
  by_cases c2 : t = 2
  · rcases deliver_inv H0 I hc k hk with ⟨_, q2⟩ | ⟨p, g', R', u', e', h', w', a', _, q2, q3, q4, _⟩
    · exact same false (fun ht => no7 ht) (fun ht => no7 ht) (by unfold impl_Link_step.f; rw [if_neg c7, if_neg c1, if_pos c2, q2]; rfl)
    · exact done _ _ _ _ _ _ _ _ c _ _ _ _ (by split <;> omega) (by unfold impl_Link_step.f; rw [if_neg c7, if_neg c1, if_pos c2, q2]; rfl) q3 q4
  by_cases c3 : t = 3
  · have e0 : ∀ X Y : Option (Bool × Int × List S68 × Int × Int × List (List Int) × List (List Int) × List Int), (impl_within.f n 0 (wrap64 ((w.length : Int) - 1))).bind (fun t23 => if t23 = true then X else Y) = if 0 ≤ n ∧ n ≤ (w.length : Int) - 1 then X else Y := by
      intro X Y
      rw [within_eq, wrap_id ((w.length : Int) - 1) (by omega)]
      simp only [Option.bind_some, decide_eq_true_eq]
    by_cases hn : 0 ≤ n ∧ n ≤ (w.length : Int) - 1
    · have e3 : impl_Link_step.f k s f r e h w a t n = some (true, s, f, r, e, h, w.eraseIdx n.toNat, a) := by
        unfold impl_Link_step.f
        rw [if_neg c7, if_neg c1, if_neg c2, if_pos c3, e0, if_pos hn, if_pos hn.1, if_pos (by omega)]
      obtain ⟨b0, s0, f0, r0, e9, h0, w0, a0, q0, g0⟩ := step_ok H0 t n k hk
      rw [e3] at q0
      simp only [Option.some.injEq, Prod.mk.injEq] at q0
      obtain ⟨rfl, rfl, rfl, rfl, rfl, rfl, rfl, rfl⟩ := q0
      refine done _ _ _ _ _ _ _ _ c B R (g.eraseIdx n.toNat) u (by split <;> omega) e3 g0 ?_
      obtain ⟨i1, ⟨i9, i10, i11⟩, i12⟩ := I
      refine ⟨i1, ⟨by rw [i9, erase_map], fun p hp => i10 p (erase_mem hp), ?_⟩, i12⟩
      rw [← erase_map]
      exact i11.sublist (List.eraseIdx_sublist _ _)
    · exact same false (fun ht => no7 ht) (fun ht => no7 ht) (by unfold impl_Link_step.f; rw [if_neg c7, if_neg c1, if_neg c2, if_pos c3, e0, if_neg hn])
  by_cases c4 : t = 4
  · obtain ⟨b, g', w', q2, q3, q4⟩ := damage_inv H0 I n k hk
    exact done _ _ _ _ _ _ _ _ (c + 1) _ _ _ _ (by rw [if_pos c4]; exact Nat.le_refl _) (by unfold impl_Link_step.f; rw [if_neg c7, if_neg c1, if_neg c2, if_neg c3, if_pos c4, q2]; rfl) q3 q4
  by_cases c5 : t = 5
  · rcases answer_inv H0 I k hk with ⟨_, q2⟩ | ⟨p, u', f', r', a', _, q2, q3, q4⟩
    · exact same false (fun ht => no7 ht) (fun ht => no7 ht) (by unfold impl_Link_step.f; rw [if_neg c7, if_neg c1, if_neg c2, if_neg c3, if_neg c4, if_pos c5, q2]; rfl)
    · exact done _ _ _ _ _ _ _ _ c _ _ _ _ (by split <;> omega) (by unfold impl_Link_step.f; rw [if_neg c7, if_neg c1, if_neg c2, if_neg c3, if_neg c4, if_pos c5, q2]; rfl) q3 q4
  by_cases c6 : t = 6
  · obtain ⟨e1, g1⟩ := replay_ok h1 k hk
    exact done true s f 0 e h w a c B R g u (by split <;> omega) (by unfold impl_Link_step.f; rw [if_neg c7, if_neg c1, if_neg c2, if_neg c3, if_neg c4, if_neg c5, if_pos c6, e1]; rfl) ⟨g1, h2, h3, h4, h5, h6⟩ I
  exact same false (fun ht => no7 ht) (fun ht => no7 ht) (by unfold impl_Link_step.f; rw [if_neg c7, if_neg c1, if_neg c2, if_neg c3, if_neg c4, if_neg c5, if_neg c6])
/-! ### Drains -/
def rn : Nat → Nat → List (Nat × List Nat)
  | _, 0 => []
  | b, m + 1 => (b, []) :: rn (b + 1) m
theorem sends_inv {c : Nat} {Q : List (Nat × Nat)} {B R : Nat} (d : Nat) : ∀ (g : List (Nat × List Nat)) (u : List (Nat × Bool)) (s : Int) (f : List S68) (r : Nat) (e : Int) (h w : List (List Int)) (a : List Int), LK s f (r : Int) e h w a → Inv c Q B R g u s f e h w a → 8 - w.length ≤ d → ∀ k, 3000001 + d < k → ∃ (m : Nat) (r' : Int) (w' : List (List Int)), impl_DrainLink.l10 k s f (r : Int) e h w a = some (s, f, r', e, h, w', a) ∧ LK s f r' e h w' a ∧ Inv c Q B R (g ++ rn (B + r) m) u s f e h w' a ∧ (r + m = f.length ∨ (w.length + m = 8 ∧ r + m ≤ f.length)) := by
  induction d with
  | zero =>
    intro g u s f r e h w a H I hd k hk
    obtain ⟨k, rfl⟩ : ∃ m, k = m + 1 := ⟨k - 1, by omega⟩
    simp only [impl_DrainLink.l10]
    have h8 := H.2.2.1
    have hr := H.1.2.2.1
    rcases send_inv H I k (by omega) with ⟨hs, q2⟩ | ⟨m, w', _, _, h9, _⟩
    · rw [q2]
      simp only [Option.bind_some]
      rw [if_neg (by simp)]
      exact ⟨0, (r : Int), w, rfl, H, by rw [rn, List.append_nil]; exact I, by omega⟩
    · omega
  | succ d ih =>
    intro g u s f r e h w a H I hd k hk
    obtain ⟨k, rfl⟩ : ∃ m, k = m + 1 := ⟨k - 1, by omega⟩
    simp only [impl_DrainLink.l10]
    have h8 := H.2.2.1
    have hr := H.1.2.2.1
    rcases send_inv H I k (by omega) with ⟨hs, q2⟩ | ⟨m, w', hm, hmf, h9, q2, q3, q5, q4⟩
    · rw [q2]
      simp only [Option.bind_some]
      rw [if_neg (by simp)]
      exact ⟨0, (r : Int), w, rfl, H, by rw [rn, List.append_nil]; exact I, by omega⟩
    · obtain rfl : r = m := by omega
      rw [q2]
      simp only [Option.bind_some]
      rw [if_pos (by trivial), show (r : Int) + 1 = ((r + 1 : Nat) : Int) from by omega]
      rw [show (r : Int) + 1 = ((r + 1 : Nat) : Int) from by omega] at q3
      obtain ⟨m, r', w2, z1, z2, z3, z4⟩ := ih (g ++ [(B + r, [])]) u s f (r + 1) e h w' a q3 q4 (by omega) k (by omega)
      refine ⟨m + 1, r', w2, z1, z2, ?_, by omega⟩
      rw [rn]
      rw [List.append_assoc, show B + (r + 1) = B + r + 1 from by omega] at z3
      exact z3
theorem delivers_inv {c : Nat} (hc : c ≤ 3) {Q : List (Nat × Nat)} {B : Nat} (g : List (Nat × List Nat)) : ∀ (R : Nat) (u : List (Nat × Bool)) (s : Int) (f : List S68) (r e : Int) (h w : List (List Int)) (a : List Int), LK s f r e h w a → Inv c Q B R g u s f e h w a → ∀ k, 3000001 + g.length < k → ∃ (R' : Nat) (u' : List (Nat × Bool)) (e' : Int) (h' w' : List (List Int)) (a' : List Int), impl_DrainLink.l12 k s f r e h w a = some (s, f, r, e', h', w', a') ∧ LK s f r e' h' w' a' ∧ Inv c Q B R' [] u' s f e' h' w' a' ∧ R ≤ R' ∧ (g = [] → R' = R ∧ u' = u) ∧
    (∀ j m, g = rn j m → j ≤ R → u.length + m ≤ 8 → j + m ≤ R' ∧ (0 < m → ∃ v t, u' = v ++ [(R', t)])) := by
  induction g with
  | nil =>
    intro R u s f r e h w a H I k hk
    obtain ⟨k, rfl⟩ : ∃ m, k = m + 1 := ⟨k - 1, by omega⟩
    simp only [impl_DrainLink.l12]
    rcases deliver_inv H I hc k (by omega) with ⟨_, q2⟩ | ⟨p, g', _, _, _, _, _, _, q1, _⟩
    · rw [q2]
      simp only [Option.bind_some]
      rw [if_neg (by simp)]
      refine ⟨R, u, e, h, w, a, rfl, H, I, Nat.le_refl _, fun _ => ⟨rfl, rfl⟩, fun j m hg hj _ => ?_⟩
      cases m with
      | zero => exact ⟨by omega, fun hm => absurd hm (by omega)⟩
      | succ m => rw [rn] at hg; cases hg
    · cases q1
  | cons p g ih =>
    intro R u s f r e h w a H I k hk
    obtain ⟨k, rfl⟩ : ∃ m, k = m + 1 := ⟨k - 1, by omega⟩
    rw [List.length_cons] at hk
    simp only [impl_DrainLink.l12]
    rcases deliver_inv H I hc k (by omega) with ⟨q1, _⟩ | ⟨p2, g2, R1, u1, e1, h1, w1, a1, q1, q2, q3, q4, q5, q6, q7⟩
    · cases q1
    · injection q1 with q1a q1b
      subst q1a
      subst q1b
      rw [q2]
      simp only [Option.bind_some]
      rw [if_pos (by trivial)]
      obtain ⟨R', u', e', h', w', a', z1, z2, z3, z4, z5, z6⟩ := ih R1 u1 s f r e1 h1 w1 a1 q3 q4 k (by omega)
      refine ⟨R', u', e', h', w', a', z1, z2, z3, by omega, fun hg => absurd hg (by simp), fun j m hg hj hu => ?_⟩
      cases m with
      | zero => rw [rn] at hg; cases hg
      | succ m =>
        rw [rn] at hg
        injection hg with hg1 hg2
        subst hg1
        have hR1 : j + 1 ≤ R1 := q6 rfl hj
        obtain ⟨t, ht⟩ := q7 (by omega)
        have hl : u1.length = u.length + 1 := by rw [ht, List.length_append, List.length_singleton]
        obtain ⟨y1, y2⟩ := z6 (j + 1) m hg2 hR1 (by omega)
        refine ⟨by omega, fun _ => ?_⟩
        cases m with
        | zero =>
          rw [rn] at hg2
          obtain ⟨x1, x2⟩ := z5 hg2
          exact ⟨u, t, by rw [x2, x1, ht]⟩
        | succ m => exact y2 (by omega)
theorem answers_inv {c : Nat} {Q : List (Nat × Nat)} {R : Nat} {g : List (Nat × List Nat)} (u : List (Nat × Bool)) : ∀ (B : Nat) (s : Int) (f : List S68) (r e : Int) (h w : List (List Int)) (a : List Int), LK s f r e h w a → Inv c Q B R g u s f e h w a → ∀ k, 3000001 + u.length < k → ∃ (B' : Nat) (f' : List S68) (r' : Int) (a' : List Int), impl_DrainLink.l14 k s f r e h w a = some (s, f', r', e, h, w, a') ∧ LK s f' r' e h w a' ∧ Inv c Q B' R g [] s f' e h w a' ∧ (u = [] → B' = B) ∧ (∀ v p, u = v ++ [p] → B' = p.1) := by
  induction u with
  | nil =>
    intro B s f r e h w a H I k hk
    obtain ⟨k, rfl⟩ : ∃ m, k = m + 1 := ⟨k - 1, by omega⟩
    simp only [impl_DrainLink.l14]
    rcases answer_inv H I k (by omega) with ⟨_, q2⟩ | ⟨p, u', _, _, _, q1, _⟩
    · rw [q2]
      simp only [Option.bind_some]
      rw [if_neg (by simp)]
      exact ⟨B, f, r, a, rfl, H, I, fun _ => rfl, fun v p hv => by cases v <;> cases hv⟩
    · cases q1
  | cons p u ih =>
    intro B s f r e h w a H I k hk
    obtain ⟨k, rfl⟩ : ∃ m, k = m + 1 := ⟨k - 1, by omega⟩
    rw [List.length_cons] at hk
    simp only [impl_DrainLink.l14]
    rcases answer_inv H I k (by omega) with ⟨q1, _⟩ | ⟨p2, u2, f1, r1, a1, q1, q2, q3, q4⟩
    · cases q1
    · injection q1 with q1a q1b
      subst q1a
      subst q1b
      rw [q2]
      simp only [Option.bind_some]
      rw [if_pos (by trivial)]
      obtain ⟨B', f', r', a', z1, z2, z3, z4, z5⟩ := ih p.1 s f1 r1 e h w a1 q3 q4 k (by omega)
      refine ⟨B', f', r', a', z1, z2, z3, fun hu => absurd hu (by simp), fun v x hv => ?_⟩
      cases v with
      | nil =>
        rw [List.nil_append] at hv
        injection hv with hv1 hv2
        rw [z4 hv2, hv1]
      | cons y v =>
        rw [List.cons_append] at hv
        injection hv with hv1 hv2
        exact z5 v x hv2
/-- One round: what is in flight and what is answered is used up; if there was nothing, all is accepted and acknowledged. -/
theorem round_inv {c : Nat} (hc : c ≤ 3) {Q : List (Nat × Nat)} {B R : Nat} {g : List (Nat × List Nat)} {u : List (Nat × Bool)} {s : Int} {f : List S68} {r e : Int} {h w : List (List Int)} {a : List Int} (H : LK s f r e h w a) (I : Inv c Q B R g u s f e h w a) (k : Nat) (hk : 3000020 < k) :
    ∃ (w2 : List (List Int)) (r2 e3 : Int) (h3 w3 : List (List Int)) (a3 : List Int) (f4 : List S68) (r4 : Int) (a4 : List Int) (B4 R4 : Nat),
      impl_Link_step.f k s f r e h w a 6 0 = some (true, s, f, 0, e, h, w, a) ∧ impl_DrainLink.l10 k s f 0 e h w a = some (s, f, r2, e, h, w2, a) ∧ impl_DrainLink.l12 k s f r2 e h w2 a = some (s, f, r2, e3, h3, w3, a3) ∧ impl_DrainLink.l14 k s f r2 e3 h3 w3 a3 = some (s, f4, r4, e3, h3, w3, a4) ∧ LK s f4 r4 e3 h3 w3 a4 ∧ Inv c Q B4 R4 [] [] s f4 e3 h3 w3 a4 ∧ (g = [] → u = [] → B4 = Q.length) := by
  obtain ⟨e1, g1⟩ := replay_ok H.1 k (by omega)
  have H1 : LK s f 0 e h w a := ⟨g1, H.2⟩
  have p1 : impl_Link_step.f k s f r e h w a 6 0 = some (true, s, f, 0, e, h, w, a) := by
    unfold impl_Link_step.f
    rw [if_neg (by decide), if_neg (by decide), if_neg (by decide), if_neg (by decide), if_neg (by decide), if_neg (by decide), if_pos (by decide), e1]
    rfl
  obtain ⟨m, r2, w2, q1, q2, q3, q4⟩ := sends_inv 8 g u s f 0 e h w a H1 I (by omega) k (by omega)
  have hgl : (g ++ rn (B + 0) m).length ≤ 8 := by
    have := q2.2.2.1
    rw [q3.2.1.1, List.length_map] at this
    exact this
  obtain ⟨R3, u3, e3, h3, w3, a3, x1, x2, x3, x4, x5, x6⟩ := delivers_inv hc (g ++ rn (B + 0) m) R u s f r2 e h w2 a q2 q3 k (by omega)
  have hul : u3.length ≤ 8 := by
    have := x2.2.2.2.2.1
    rw [x3.2.2.1, List.length_map] at this
    exact this
  obtain ⟨B4, f4, r4, a4, y1, y2, y3, y4, y5⟩ := answers_inv u3 B s f r2 e3 h3 w3 a3 x2 x3 k (by omega)
  refine ⟨w2, r2, e3, h3, w3, a3, f4, r4, a4, B4, R3, p1, q1, x1, y1, y2, y3, fun hg hu => ?_⟩
  subst hg
  subst hu
  have hlf := len_f I
  have hw0 : w.length = 0 := by rw [I.2.1.1]; rfl
  have h7 := H.1.2.1
  have hBR := I.1.1.2.2.1
  have hRQ := x3.1.1.2.2.2
  have hm : m = f.length := by omega
  obtain ⟨z1, z2⟩ := x6 (B + 0) m (by rw [List.nil_append]) (by omega) (by rw [List.length_nil]; omega)
  rcases Nat.eq_zero_or_pos m with hm0 | hm0
  · obtain ⟨v1, v2⟩ := x5 (by rw [hm0]; rfl)
    rw [y4 v2]
    omega
  · obtain ⟨v, t, hv⟩ := z2 hm0
    rw [y5 v (R3, t) hv]
    show R3 = Q.length
    omega
theorem drain_stop (i : Int) (s r e : Int) (h : List (List Int)) (k : Nat) : impl_DrainLink.l7 (k + 1) i s [] r e h [] [] = some (i, s, [], r, e, h, [], []) := by
  simp only [impl_DrainLink.l7]
  by_cases hi : i < 200
  · rw [if_pos hi, if_pos ⟨by rfl, by rfl, by rfl⟩]
  · rw [if_neg hi]
theorem drain_step (i : Nat) (hi : i < 200) (k : Nat) (s : Int) (f : List S68) (r e : Int) (h w : List (List Int)) (a : List Int) (s1 : Int) (f1 : List S68) (r1 e1 : Int) (h1 w1 : List (List Int)) (a1 : List Int) (b : Bool) (s2 : Int) (f2 : List S68) (r2 e2 : Int) (h2 w2 : List (List Int)) (a2 : List Int) (s3 : Int) (f3 : List S68) (r3 e3 : Int) (h3 w3 : List (List Int)) (a3 : List Int) (s4 : Int) (f4 : List S68) (r4 e4 : Int) (h4 w4 : List (List Int)) (a4 : List Int)
    (q1 : impl_Link_step.f k s f r e h w a 6 0 = some (b, s1, f1, r1, e1, h1, w1, a1)) (q2 : impl_DrainLink.l10 k s1 f1 r1 e1 h1 w1 a1 = some (s2, f2, r2, e2, h2, w2, a2)) (q3 : impl_DrainLink.l12 k s2 f2 r2 e2 h2 w2 a2 = some (s3, f3, r3, e3, h3, w3, a3)) (q4 : impl_DrainLink.l14 k s3 f3 r3 e3 h3 w3 a3 = some (s4, f4, r4, e4, h4, w4, a4)) (hne : ¬ (f.length = 0 ∧ w.length = 0 ∧ a.length = 0)) :
    impl_DrainLink.l7 (k + 1) (i : Int) s f r e h w a = impl_DrainLink.l7 k ((i + 1 : Nat) : Int) s4 f4 r4 e4 h4 w4 a4 := by
  simp only [impl_DrainLink.l7]
  rw [if_pos (by omega), q1]
  simp only [Option.bind_some]
  rw [q2]
  simp only [Option.bind_some]
  rw [q3]
  simp only [Option.bind_some]
  rw [q4]
  simp only [Option.bind_some]
  rw [wrap_succ i (by omega)]
  rw [if_neg (fun z => hne ⟨by omega, by omega, by omega⟩)]
theorem drain_inv {c : Nat} (hc : c ≤ 3) {Q : List (Nat × Nat)} {B R : Nat} {g : List (Nat × List Nat)} {u : List (Nat × Bool)} {s : Int} {f : List S68} {r e : Int} {h w : List (List Int)} {a : List Int} (H : LK s f r e h w a) (I : Inv c Q B R g u s f e h w a) (k : Nat) (hk : 3000500 < k) :
    ∃ (s' r' e' : Int), impl_DrainLink.f k s f r e h w a = some (s', [], r', e', Q.map pay, [], []) := by
  have fin : ∀ {B R : Nat} {g : List (Nat × List Nat)} {u : List (Nat × Bool)} {s : Int} {f : List S68} {e : Int} {h w : List (List Int)} {a : List Int}, Inv c Q B R g u s f e h w a → f = [] → h = Q.map pay := by
    intro B R g u s f e h w a I hf
    have h1 := len_f I
    have h2 := I.1.1.2.2
    rw [hf, List.length_nil] at h1
    rw [I.1.2.2.2.2, List.take_of_length_le (by omega)]
  have emp : ∀ {f : List S68} {w : List (List Int)} {a : List Int}, f.length = 0 ∧ w.length = 0 ∧ a.length = 0 → f = [] ∧ w = [] ∧ a = [] := fun hh => ⟨List.eq_nil_of_length_eq_zero hh.1, List.eq_nil_of_length_eq_zero hh.2.1, List.eq_nil_of_length_eq_zero hh.2.2⟩
  have e7 : ∃ (i' s' r' e' : Int), impl_DrainLink.l7 k 0 s f r e h w a = some (i', s', [], r', e', Q.map pay, [], []) := by
    obtain ⟨k, rfl⟩ : ∃ m, k = m + 3 := ⟨k - 3, by omega⟩
    by_cases h0 : f.length = 0 ∧ w.length = 0 ∧ a.length = 0
    · obtain ⟨rfl, rfl, rfl⟩ := emp h0
      exact ⟨0, s, r, e, by rw [drain_stop, fin I rfl]⟩
    obtain ⟨w2, r2, e3, h3, w3, a3, f4, r4, a4, B4, R4, p1, p2, p3, p4, p5, p6, _⟩ := round_inv hc H I (k + 2) (by omega)
    have d1 := drain_step 0 (by omega) (k + 2) s f r e h w a _ _ _ _ _ _ _ _ _ _ _ _ _ _ _ _ _ _ _ _ _ _ _ _ _ _ _ _ _ p1 p2 p3 p4 h0
    rw [show ((0 : Nat) : Int) = 0 from rfl] at d1
    rw [d1]
    by_cases h1 : f4.length = 0 ∧ w3.length = 0 ∧ a4.length = 0
    · obtain ⟨rfl, rfl, rfl⟩ := emp h1
      exact ⟨_, s, r4, e3, by rw [drain_stop, fin p6 rfl]⟩
    obtain ⟨v2, t2, t3, j3, v3, b3, y4, t4, b4, B5, R5, n1, n2, n3, n4, n5, n6, n7⟩ := round_inv hc p5 p6 (k + 1) (by omega)
    rw [drain_step (0 + 1) (by omega) (k + 1) s f4 r4 e3 h3 w3 a4 _ _ _ _ _ _ _ _ _ _ _ _ _ _ _ _ _ _ _ _ _ _ _ _ _ _ _ _ _ n1 n2 n3 n4 h1]
    have hB := n7 rfl rfl
    have hf := len_f n6
    have h2 : y4.length = 0 ∧ v3.length = 0 ∧ b4.length = 0 := ⟨by omega, by rw [n6.2.1.1]; rfl, by rw [n6.2.2.1]; rfl⟩
    obtain ⟨rfl, rfl, rfl⟩ := emp h2
    exact ⟨_, s, t4, t3, by rw [drain_stop, fin n6 rfl]⟩
  obtain ⟨i', s', r', e', e8⟩ := e7
  unfold impl_DrainLink.f
  rw [copyL_ev H k (by omega)]
  simp only [Option.bind_some]
  rw [lkOk_ev H k (by omega)]
  simp only [Option.bind_some]
  rw [if_pos (by trivial), e8]
  exact ⟨s', r', e', rfl⟩
/-! ### What is drawn -/
/-- A cursor that has read no more than there is. -/
def CurOk (l : List Int) (i : Int) : Prop := 0 ≤ i ∧ i ≤ l.length ∧ (l.length : Int) ≤ 140737488351232
theorem byte_ok (l : List Int) (i h : Int) (hc : CurOk l i) : ∃ x i' h', spec_l01Byte.f l i h = some (x, i', h') ∧ 0 ≤ x ∧ x ≤ 255 ∧ CurOk l i' := by
  obtain ⟨h0, h1, h2⟩ := hc
  unfold spec_l01Byte.f
  by_cases hi : i < (l.length : Int)
  · rw [if_pos hi, if_pos h0]
    exact ⟨_, _, _, rfl, (and_mask _ 255 (by decide)).1, (and_mask _ 255 (by decide)).2, by rw [wrap_id _ (by omega)]; exact ⟨by omega, by omega, h2⟩⟩
  · rw [if_neg hi]
    exact ⟨_, _, _, rfl, (and_mask _ 255 (by decide)).1, (and_mask _ 255 (by decide)).2, ⟨h0, h1, h2⟩⟩
theorem below_ok (l : List Int) (i h n : Int) (hc : CurOk l i) (hn : 0 < n) : ∃ x i' h', spec_l01Below.f l i h n = some (x, i', h') ∧ 0 ≤ x ∧ x < n ∧ CurOk l i' := by
  unfold spec_l01Below.f
  rw [if_neg (by omega)]
  by_cases hb : n ≤ 256
  · rw [if_pos hb]
    obtain ⟨x, i1, h1, e, hx0, hx1, hc1⟩ := byte_ok l i h hc
    rw [e]
    simp only [Option.bind_some]
    rw [if_neg (by omega)]
    exact ⟨_, _, _, rfl, (tmod_range x n hx0 hn).1, (tmod_range x n hx0 hn).2, hc1⟩
  · rw [if_neg hb]
    obtain ⟨x, i1, h1, e1, hx0, hx1, hc1⟩ := byte_ok l i h hc
    obtain ⟨y, i2, h2, e2, hy0, hy1, hc2⟩ := byte_ok l i1 h1 hc1
    obtain ⟨z, i3, h3, e3, hz0, hz1, hc3⟩ := byte_ok l i2 h2 hc2
    obtain ⟨w, i4, h4, e4, hw0, hw1, hc4⟩ := byte_ok l i3 h3 hc3
    rw [e1]
    simp only [Option.bind_some]
    rw [e2]
    simp only [Option.bind_some]
    rw [e3]
    simp only [Option.bind_some]
    rw [e4]
    simp only [Option.bind_some]
    rw [if_neg (by omega)]
    have hv : 0 ≤ wrap64 ((wrap64 ((wrap64 ((wrap64 (x * 16777216)) + (wrap64 (y * 65536)))) + (wrap64 (z * 256)))) + w) := by
      rw [wrap_id (x * 16777216) (by omega), wrap_id (y * 65536) (by omega), wrap_id (z * 256) (by omega), wrap_id (x * 16777216 + y * 65536) (by omega), wrap_id (x * 16777216 + y * 65536 + z * 256) (by omega), wrap_id _ (by omega)]
      omega
    exact ⟨_, _, _, rfl, (tmod_range _ n hv hn).1, (tmod_range _ n hv hn).2, hc4⟩
theorem pick_ok (l : List Int) (i h : Int) (xs : List Int) (hc : CurOk l i) (hx : 0 < xs.length) : ∃ x i' h', spec_l01PickInt.f l i h xs = some (x, i', h') ∧ x ∈ xs ∧ CurOk l i' := by
  unfold spec_l01PickInt.f
  obtain ⟨q, i1, h1, e, h0, h2, hc1⟩ := below_ok l i h (xs.length : Int) hc (by omega)
  rw [e]
  simp only [Option.bind_some]
  rw [if_pos h0, if_pos h2]
  obtain ⟨m, rfl⟩ := Int.eq_ofNat_of_zero_le h0
  refine ⟨_, _, _, rfl, ?_, hc1⟩
  rw [rd_lt xs m (by omega)]
  exact List.getElem_mem _
theorem new_l0 (l : List Int) (d : Nat) : ∀ (i : Nat) (h : Int), i + d = 4000 → ∃ h', ∀ k, d < k → spec_l01New.l0 k l h (i : Int) = some (l, 0, h') := by
  induction d with
  | zero =>
    intro i h hi
    refine ⟨h, fun k hk => ?_⟩
    obtain ⟨k, rfl⟩ : ∃ m, k = m + 1 := ⟨k - 1, by omega⟩
    simp only [spec_l01New.l0]
    by_cases hlt : (i : Int) < (l.length : Int)
    · rw [if_pos hlt, if_neg (by omega)]
    · rw [if_neg hlt]
  | succ d ih =>
    intro i h hi
    by_cases hlt : (i : Int) < (l.length : Int)
    · obtain ⟨h', hh⟩ := ih (i + 1) (Go.bits .and .i64 (wrap64 ((wrap64 ((wrap64 (h * 131)) + (wrap64 (rd l i)))) + 7)) 1073741823) (by omega)
      refine ⟨h', fun k hk => ?_⟩
      obtain ⟨k, rfl⟩ : ∃ m, k = m + 1 := ⟨k - 1, by omega⟩
      simp only [spec_l01New.l0]
      rw [if_pos hlt, if_pos (show (i : Int) < 4000 by omega), if_pos (by omega), wrap_succ i (by omega)]
      exact hh k (by omega)
    · refine ⟨h, fun k hk => ?_⟩
      obtain ⟨k, rfl⟩ : ∃ m, k = m + 1 := ⟨k - 1, by omega⟩
      simp only [spec_l01New.l0]
      rw [if_neg hlt]
theorem new_ok (l : List Int) : ∃ h', ∀ k, 4000 < k → spec_l01New.f k l = some (l, 0, h') := by
  unfold spec_l01New.f
  exact new_l0 l 4000 0 _ (by omega)

theorem act_ok (l : List Int) (i h : Int) (hc : CurOk l i) : ∃ x y i' h', spec_l10Act.f l i h = some (x, y, i', h') ∧ CurOk l i' := by
  unfold spec_l10Act.f
  obtain ⟨x, i1, h1, e1, _, hc1⟩ := pick_ok l i h ([7, 7, 1, 1, 1, 2, 2, 2, 5, 5, 3, 4, 6] : List Int) hc (by decide)
  rw [e1]
  simp only [Option.bind_some]
  by_cases c7 : x = 7
  · obtain ⟨y, i2, h2, e2, _, _, hc2⟩ := below_ok l i1 h1 300 hc1 (by decide)
    rw [if_pos c7, e2]; exact ⟨_, _, _, _, rfl, hc2⟩
  rw [if_neg c7]
  by_cases c3 : x = 3
  · obtain ⟨y, i2, h2, e2, _, _, hc2⟩ := below_ok l i1 h1 3 hc1 (by decide)
    rw [if_pos c3, e2]; exact ⟨_, _, _, _, rfl, hc2⟩
  rw [if_neg c3]
  by_cases c4 : x = 4
  · obtain ⟨y, i2, h2, e2, _, _, hc2⟩ := below_ok l i1 h1 2 hc1 (by decide)
    obtain ⟨z, i3, h3, e3, _, _, hc3⟩ := below_ok l i2 h2 40 hc2 (by decide)
    rw [if_pos c4, e2]
    simp only [Option.bind_some]
    rw [e3]; exact ⟨_, _, _, _, rfl, hc3⟩
  rw [if_neg c4]
  exact ⟨_, _, _, _, rfl, hc1⟩
theorem acts_l0 (l : List Int) (n : Nat) (hn : n ≤ 100) (d : Nat) : ∀ (i : Nat) (xs : List S39) (p h : Int), i + d = n → xs.length = i → CurOk l p → ∃ ys p' h', (∀ k, d < k → spec_l10Acts.l0 k xs (n : Int) (i : Int) l p h = some (ys, p', h')) ∧ ys.length = n := by
  induction d with
  | zero =>
    intro i xs p h hi hx hc
    refine ⟨xs, p, h, fun k hk => ?_, by omega⟩
    obtain ⟨k, rfl⟩ : ∃ m, k = m + 1 := ⟨k - 1, by omega⟩
    simp only [spec_l10Acts.l0]
    rw [if_neg (by omega)]
  | succ d ih =>
    intro i xs p h hi hx hc
    obtain ⟨x, y, p1, h1, e1, hc1⟩ := act_ok l p h hc
    obtain ⟨ys, p', h', hh, hy⟩ := ih (i + 1) (xs ++ [(⟨x, y⟩ : S39)]) p1 h1 (by omega) (by rw [List.length_append, List.length_singleton]; omega) hc1
    refine ⟨ys, p', h', fun k hk => ?_, hy⟩
    obtain ⟨k, rfl⟩ : ∃ m, k = m + 1 := ⟨k - 1, by omega⟩
    simp only [spec_l10Acts.l0]
    rw [if_pos (by omega), e1]
    simp only [Option.bind_some]
    rw [if_pos (by omega), wrap_succ i (by omega)]
    exact hh k (by omega)
theorem draw_ok (l : List Int) (hl : (l.length : Int) ≤ 140737488351232) : ∃ ys, ys.length ≤ 100 ∧ ∀ k, 4000 < k → spec_DrawLinkActs.f k l = some ys := by
  obtain ⟨h0, e0⟩ := new_ok l
  obtain ⟨n, p, h, e1, n0, n1, hc⟩ := below_ok l 0 h0 60 ⟨Int.le_refl 0, by omega, hl⟩ (by decide)
  obtain ⟨m, rfl⟩ : ∃ m : Nat, n = (m : Int) := ⟨n.toNat, by omega⟩
  obtain ⟨ys, p', h', hh, hy⟩ := acts_l0 l m (by omega) m 0 [] p h (by omega) rfl hc
  refine ⟨ys, by omega, fun k hk => ?_⟩
  unfold spec_DrawLinkActs.f spec_l10Acts.f
  rw [e0 k hk]
  simp only [Option.bind_some]
  rw [e1]
  simp only [Option.bind_some]
  have e2 : spec_l10Acts.l0 k [] (m : Int) 0 l p h = _ := hh k (by omega)
  rw [e2]
  rfl
theorem new_lk : LK 0 [] 0 0 [] [] [] := by
  refine ⟨⟨by omega, by simp, by simp, fun j x hx => by simp at hx⟩, ⟨by omega, by simp, by simp⟩, by simp, by simp, by simp, by simp⟩
/-! ### The law -/
theorem same_l0 (l : List Int) (hl : l.length ≤ 1000000) (d : Nat) : ∀ i : Nat, i + d = l.length → ∀ k, d < k → laws_sameInts.l0 k l l (i : Int) = some true := by
  induction d with
  | zero =>
    intro i hi k hk
    obtain ⟨k, rfl⟩ : ∃ m, k = m + 1 := ⟨k - 1, by omega⟩
    simp only [laws_sameInts.l0]
    rw [if_neg (by omega)]
  | succ d ih =>
    intro i hi k hk
    obtain ⟨k, rfl⟩ : ∃ m, k = m + 1 := ⟨k - 1, by omega⟩
    simp only [laws_sameInts.l0]
    rw [if_pos (by omega), if_pos (by omega), if_pos (by omega), if_pos (by trivial), wrap_succ i (by omega)]
    exact ih (i + 1) (by omega) k (by omega)
theorem same_ev (l : List Int) (hl : l.length ≤ 1000000) (k : Nat) (hk : 3000000 < k) : laws_sameInts.f k l l = some true := by
  unfold laws_sameInts.f
  rw [if_pos (by trivial)]
  exact same_l0 l hl l.length 0 (by omega) k (by omega)
theorem l35_ev (X Y : List (List Int)) (b : Bool) (hX : X.length ≤ 1000) (hXY : X.length ≤ Y.length) (hs : ∀ i : Nat, i < X.length → rdl_ X (i : Int) = rdl_ Y (i : Int) ∧ (rdl_ Y (i : Int)).length ≤ 1000000) (d : Nat) : ∀ i : Nat, i + d = X.length → ∀ k, 3000001 + d < k → ∃ z, laws_FnLinkOnce.l35 k X Y b (i : Int) = some (b, z) := by
  induction d with
  | zero =>
    intro i hi k hk
    obtain ⟨k, rfl⟩ : ∃ m, k = m + 1 := ⟨k - 1, by omega⟩
    simp only [laws_FnLinkOnce.l35]
    rw [if_neg (by omega)]
    exact ⟨_, rfl⟩
  | succ d ih =>
    intro i hi k hk
    obtain ⟨k, rfl⟩ : ∃ m, k = m + 1 := ⟨k - 1, by omega⟩
    simp only [laws_FnLinkOnce.l35]
    obtain ⟨h1, h2⟩ := hs i (by omega)
    rw [if_pos (by omega), if_neg (by omega), if_pos (by omega), if_pos (by omega), if_pos (by omega), if_pos (by omega), h1, same_ev _ h2 k (by omega)]
    simp only [Option.bind_some]
    rw [if_pos (by trivial), wrap_succ i (by omega)]
    exact ih (i + 1) (by omega) k (by omega)
theorem l42_ev (Y : List (List Int)) (b : Bool) (hY : Y.length ≤ 1000) (hs : ∀ i : Nat, i < Y.length → (rdl_ Y (i : Int)).length ≤ 1000000) (d : Nat) : ∀ i : Nat, i + d = Y.length → ∀ k, 3000001 + d < k → ∃ z, laws_FnLinkOnce.l42 k Y Y b (i : Int) = some (b, z) := by
  induction d with
  | zero =>
    intro i hi k hk
    obtain ⟨k, rfl⟩ : ∃ m, k = m + 1 := ⟨k - 1, by omega⟩
    simp only [laws_FnLinkOnce.l42]
    rw [if_neg (by omega)]
    exact ⟨_, rfl⟩
  | succ d ih =>
    intro i hi k hk
    obtain ⟨k, rfl⟩ : ∃ m, k = m + 1 := ⟨k - 1, by omega⟩
    simp only [laws_FnLinkOnce.l42]
    rw [if_pos (by omega), if_pos (by omega), if_pos (by omega), if_pos (by omega), if_pos (by omega), same_ev _ (hs i (by omega)) k (by omega)]
    simp only [Option.bind_some]
    rw [if_pos (by trivial), wrap_succ i (by omega)]
    exact ih (i + 1) (by omega) k (by omega)
theorem linkstep_ev {s : Int} {f : List S68} {r e : Int} {h w : List (List Int)} {a : List Int} (H : LK s f r e h w a) (t n : Int) (k : Nat) (hk : 3000000 < k) {b : Bool} {s' : Int} {f' : List S68} {r' e' : Int} {h' w' : List (List Int)} {a' : List Int} (q : impl_Link_step.f k s f r e h w a t n = some (b, s', f', r', e', h', w', a')) : impl_LinkStep.f k s f r e h w a t n = some (s', f', r', e', h', w', a', b) := by
  unfold impl_LinkStep.f
  rw [copyL_ev H k hk]
  simp only [Option.bind_some]
  rw [lkOk_ev H k hk]
  simp only [Option.bind_some]
  rw [if_pos (by trivial), q]
  rfl
/-- The state of the law's first loop. -/
def Run (c : Nat) (q : List (List Int)) (s : Int) (f : List S68) (e : Int) (h w : List (List Int)) (a : List Int) : Prop := c ≤ 3 → ∃ Q B R g u, q = Q.map pay ∧ Inv c Q B R g u s f e h w a
theorem step_run {c : Nat} {q : List (List Int)} {s : Int} {f : List S68} {r e : Int} {h w : List (List Int)} {a : List Int} (H : LK s f r e h w a) (I : Run c q s f e h w a) (hq : q.length < 400) (t n : Int) (k : Nat) (hk : 3000000 < k) :
    ∃ (b : Bool) (s' : Int) (f' : List S68) (r' e' : Int) (h' w' : List (List Int)) (a' : List Int), impl_LinkStep.f k s f r e h w a t n = some (s', f', r', e', h', w', a', b) ∧ LK s' f' r' e' h' w' a' ∧ Run (if t = 4 then c + 1 else c) (if t = 7 ∧ b = true then q ++ [([wrap64 (Int.tdiv n 256), Int.tmod n 256] : List Int)] else q) s' f' e' h' w' a' := by
  by_cases hc : c ≤ 3
  · obtain ⟨Q, B, R, g, u, rfl, J⟩ := I hc
    rw [List.length_map] at hq
    obtain ⟨b, s', f', r', e', h', w', a', q1, q2, q3, q4, _⟩ := step_inv H J hc hq t n k hk
    refine ⟨b, s', f', r', e', h', w', a', linkstep_ev H t n k hk q1, q2, fun _ => ?_⟩
    by_cases h7 : t = 7 ∧ b = true
    · obtain ⟨n0, n1, B', R', g', u', J'⟩ := q3 h7.1 h7.2
      rw [if_pos h7, if_neg (by omega), (word_pay n ⟨n0, n1⟩).1]
      exact ⟨_, B', R', g', u', by rw [List.map_append]; rfl, J'⟩
    · obtain ⟨B', R', g', u', J'⟩ := q4 h7
      rw [if_neg h7]
      exact ⟨Q, B', R', g', u', rfl, J'⟩
  · obtain ⟨b, s', f', r', e', h', w', a', q1, q2⟩ := step_ok H t n k hk
    exact ⟨b, s', f', r', e', h', w', a', linkstep_ev H t n k hk q1, q2, fun hx => absurd hx (by split <;> omega)⟩
theorem once_l7 (ys : List S39) (hy : ys.length ≤ 100) (d : Nat) : ∀ (i : Nat) (q : List (List Int)) (c : Nat) (s : Int) (f : List S68) (r e : Int) (h w : List (List Int)) (a : List Int), i + d = ys.length → q.length ≤ i → c ≤ i → LK s f r e h w a → Run c q s f e h w a → ∀ k, 3000001 + d < k →
    ∃ (q' : List (List Int)) (c' : Nat) (i' s' : Int) (f' : List S68) (r' e' : Int) (h' w' : List (List Int)) (a' : List Int), laws_FnLinkOnce.l7 k ys q (c : Int) (i : Int) s f r e h w a = some (q', (c' : Int), i', s', f', r', e', h', w', a') ∧ LK s' f' r' e' h' w' a' ∧ Run c' q' s' f' e' h' w' a' := by
  induction d with
  | zero =>
    intro i q c s f r e h w a hi hq hc H I k hk
    obtain ⟨k, rfl⟩ : ∃ m, k = m + 1 := ⟨k - 1, by omega⟩
    simp only [laws_FnLinkOnce.l7]
    rw [if_neg (by omega)]
    exact ⟨q, c, _, _, _, _, _, _, _, _, rfl, H, I⟩
  | succ d ih =>
    intro i q c s f r e h w a hi hq hc H I k hk
    obtain ⟨k, rfl⟩ : ∃ m, k = m + 1 := ⟨k - 1, by omega⟩
    simp only [laws_FnLinkOnce.l7, laws_btoi.f]
    obtain ⟨b, s', f', r', e', h', w', a', q1, q2, q3⟩ := step_run H I (by omega) (rd_T39 ys (i : Int)).f0 (rd_T39 ys (i : Int)).f1 k (by omega)
    have hw0 : wrap64 ((c : Int) + 0) = (c : Int) := by rw [wrap_id _ (by omega)]; omega
    have hw1 : wrap64 ((c : Int) + 1) = ((c + 1 : Nat) : Int) := by rw [wrap_id _ (by omega)]; omega
    rw [if_pos (by omega), if_pos (by omega), if_pos (by omega), q1]
    simp only [Option.bind_some]
    rw [wrap_succ i (by omega)]
    generalize (rd_T39 ys (i : Int)).f0 = t at q3
    generalize (rd_T39 ys (i : Int)).f1 = n at q3
    by_cases c4 : t = 4
    · have c7 : ¬ t = 7 := by omega
      rw [if_pos c4, if_neg (fun hx => c7 hx.1)] at q3
      have go := ih (i + 1) q (c + 1) s' f' r' e' h' w' a' (by omega) (by omega) (by omega) q2 q3 k (by omega)
      cases b with
      | true =>
        rw [if_pos (by trivial), if_neg c7, if_pos c4, if_pos (by trivial)]
        simp only [Option.bind_some]
        rw [hw1]
        exact go
      | false =>
        rw [if_neg (by simp), if_pos c4, if_pos (by trivial)]
        simp only [Option.bind_some]
        rw [hw1]
        exact go
    · rw [if_neg c4] at q3
      by_cases h7 : t = 7 ∧ b = true
      · obtain ⟨c7, rfl⟩ := h7
        rw [if_pos ⟨c7, rfl⟩] at q3
        rw [if_pos (by trivial), if_pos c7, if_pos (by omega), if_neg c4, if_neg (by simp)]
        simp only [Option.bind_some]
        rw [hw0]
        exact ih (i + 1) _ c s' f' r' e' h' w' a' (by omega) (by rw [List.length_append, List.length_singleton]; omega) (by omega) q2 q3 k (by omega)
      · rw [if_neg h7] at q3
        have go := ih (i + 1) q c s' f' r' e' h' w' a' (by omega) (by omega) (by omega) q2 q3 k (by omega)
        cases b with
        | true =>
          rw [if_pos (by trivial), if_neg (fun hx => h7 ⟨hx, rfl⟩), if_neg c4, if_neg (by simp)]
          simp only [Option.bind_some]
          rw [hw0]
          exact go
        | false =>
          rw [if_neg (by simp), if_neg c4, if_neg (by simp)]
          simp only [Option.bind_some]
          rw [hw0]
          exact go
theorem new_inv : Inv 0 [] 0 0 [] [] 0 [] 0 [] [] [] := by
  refine ⟨⟨⟨by simp, by simp, by omega, by simp⟩, by simp, rfl, by simp, rfl⟩, ⟨rfl, by simp, by simp⟩, ⟨rfl, by simp, by simp⟩⟩
theorem rdl_pay (Q : List (Nat × Nat)) (i : Nat) (hi : i < Q.length) : rdl_ (Q.map pay) (i : Int) = pay Q[i] := by
  unfold rdl_
  rw [Int.toNat_natCast, List.getD_eq_getElem?_getD, List.getElem?_eq_getElem (by rw [List.length_map]; exact hi), Option.getD_some, List.getElem_map]
theorem one_ok (k : Nat) (hk : 3000500 < k) : ∃ (s : Int) (f : List S68) (r e : Int) (h w : List (List Int)) (a : List Int) (s' r' e' : Int), impl_LinkStep.f k 0 [] 0 0 [] [] [] 7 258 = some (s, f, r, e, h, w, a, true) ∧ impl_DrainLink.f k s f r e h w a = some (s', [], r', e', [[1, 2]], [], []) := by
  obtain ⟨b, s', f', r', e', h', w', a', q1, q2, q3, _, q5⟩ := step_inv new_lk new_inv (by omega) (by simp) 7 258 k (by omega)
  have hb : b = true := q5 rfl (by omega) (by omega) (by simp)
  subst hb
  obtain ⟨_, _, B', R', g', u', J⟩ := q3 rfl rfl
  obtain ⟨s2, r2, e2, q6⟩ := drain_inv (by omega) q2 J k hk
  exact ⟨s', f', r', e', h', w', a', s2, r2, e2, linkstep_ev new_lk 7 258 k (by omega) q1, q6⟩
theorem FnLinkOnce : laws_FnLinkOnce.Pure := by
  intro l _
  refine ⟨3001000, ?_⟩
  unfold laws_FnLinkOnce.f laws_big.f
  simp only [Option.bind_some]
  by_cases hb : decide ((l.length : Int) > 1048576) = true
  · rw [if_pos hb]
  have hb2 : ¬ ((l.length : Int) > 1048576) := by simpa using hb
  obtain ⟨ys, hy, e1⟩ := draw_ok l (by omega)
  rw [if_neg hb, e1 _ (by omega)]
  simp only [Option.bind_some, impl_NewLink.f]
  obtain ⟨q, c, i', s, f, r, e, h, w, a, e2, g1, g2⟩ := once_l7 ys hy ys.length 0 [] 0 0 [] 0 0 [] [] [] (by omega) (by simp) (by omega) new_lk (fun _ => ⟨[], 0, 0, [], [], rfl, new_inv⟩) 3001000 (by omega)
  have e2' : laws_FnLinkOnce.l7 3001000 ys [] 0 0 0 [] 0 0 [] [] [] = _ := e2
  rw [e2']
  simp only [Option.bind_some]
  by_cases h3 : (3 : Int) < (c : Int)
  · rw [if_pos h3]
  obtain ⟨Q, B, R, g, u, hq, J⟩ := g2 (by omega)
  subst hq
  obtain ⟨s1, f1, r1, e3, h1, w1, a1, s4, r4, e4, p1, p2⟩ := one_ok 3001000 (by omega)
  rw [if_neg h3, p1]
  simp only [Option.bind_some]
  rw [p2]
  simp only [Option.bind_some]
  have hone : rdl_ ([[1, 2]] : List (List Int)) 0 = [1, 2] := rfl
  rw [if_pos (by trivial), if_pos (by rfl), if_pos (by trivial), if_pos (by decide), hone, same_ev [1, 2] (by simp) 3001000 (by omega)]
  simp only [Option.bind_some]
  have hQ := J.1.1.1
  have hR := J.1.1.2.2.2
  have hh := J.1.2.2.2.2
  have hpl : ∀ i : Nat, i < Q.length → (rdl_ (Q.map pay) (i : Int)).length ≤ 1000000 := by
    intro i hi
    rw [rdl_pay Q i hi]
    unfold pay
    simp
  obtain ⟨z, e5⟩ := l35_ev h (Q.map pay) false (by rw [hh, List.length_map, List.length_take]; omega) (by rw [hh, List.length_map, List.length_map, List.length_take]; omega) (by
    intro i hi
    have hi2 : i < (Q.take R).length := by rw [hh, List.length_map] at hi; exact hi
    have hi3 : i < Q.length := by rw [List.length_take] at hi2; omega
    refine ⟨?_, hpl i hi3⟩
    rw [hh, rdl_pay _ i hi2, rdl_pay Q i hi3, List.getElem_take]) h.length 0 (by omega) 3001000 (by
      have : h.length ≤ 1000 := by rw [hh, List.length_map, List.length_take]; omega
      have h2 := J.1.1.1
      have : h.length ≤ 400 := by rw [hh, List.length_map, List.length_take]; omega
      omega)
  have e5' : laws_FnLinkOnce.l35 3001000 h (Q.map pay) false 0 = _ := e5
  rw [if_pos (by trivial), e5']
  simp only [Option.bind_some]
  obtain ⟨s5, r5, e6, p3⟩ := drain_inv (by omega) g1 J 3001000 (by omega)
  rw [p3]
  simp only [Option.bind_some]
  obtain ⟨z2, e7⟩ := l42_ev (Q.map pay) false (by rw [List.length_map]; omega) (fun i hi => hpl i (by rw [List.length_map] at hi; exact hi)) (Q.map pay).length 0 (by omega) 3001000 (by rw [List.length_map]; omega)
  have e7' : laws_FnLinkOnce.l42 3001000 (Q.map pay) (Q.map pay) false 0 = _ := e7
  rw [if_pos (by trivial), if_pos (by rfl), e7']
  rfl

end Go.Proofs.Ytflopendlbciaaa.Pure
