/- The statement FnLinkSteps over lists: whatever happens, a link stays valid. -/
import Derived.OpenShut
import Derived.Test.YtmdehehgmnihpaaPFnLinkStepsx
import Derived.Test.YtmdehehgmnihpaaLLists
namespace Go.Proofs.Ytmdehehgmnihpaa.Pure
set_option linter.unusedVariables false
set_option linter.unusedSimpArgs false
open Go.RowKit Go.Proofs.Ytmdehehgmnihpaa.PFnLinkSteps Go.Proofs.YtmdehehgmnihpaaW.PrintWords Go.Proofs.YtmdehehgmnihpaaW.PrintLast Go.Proofs.YtmdehehgmnihpaaW.PrintMore Go.Proofs.YtmdehehgmnihpaaX

/-- A row that is no longer than the law's bound. -/
def SmallE (x : List Int) : Prop := x.length ≤ 1048576

theorem rdL_lt (l : List (List Int)) (i : Nat) (h : i < l.length) : rd_L1 l (i : Int) = l[i] := by
  show l.getD i [] = l[i]
  simp [h]

theorem within_eq (a l m : Int) : impl_within.f a l m = some (decide (l ≤ a ∧ a ≤ m)) := by
  unfold impl_within.f
  by_cases h : a ≥ l
  · have h' : l ≤ a := h
    rw [if_pos h]; simp [h']
  · have h' : ¬ l ≤ a := h
    rw [if_neg h]; simp [h']

theorem any_not {α : Type} (l : List α) (p : α → Bool) : (!l.any fun x => !p x) = l.all p := by
  induction l with
  | nil => rfl
  | cons a l ih => rw [List.any_cons, List.all_cons, Bool.not_or, ih, Bool.not_not]

def byteB (x : Int) : Bool := decide (0 ≤ x ∧ x ≤ 255)

def bytesB (l : List Int) : Bool := l.all byteB && decide (l.length ≤ 40)

theorem notByte_eq (x : Int) : impl_AreBytes_1.f x = some (!byteB x) := by
  unfold impl_AreBytes_1.f impl_isByte.f
  rw [within_eq]
  rfl

theorem cBytes_l0 (l : List (Int)) (hl : l.length ≤ 1048580) (d : Nat) : ∀ i : Nat, i + d = l.length → ∀ k, 0 + d < k → ∃ r, slices_IndexFunc_int_int__impl_AreBytes_1.l0 k l (l.length : Int) (i : Int) = some r ∧ decide (r ≥ 0) = (l.drop i).any (fun x => !byteB x) := by
  induction d with
  | zero =>
    intro i hi k hk
    obtain ⟨k, rfl⟩ : ∃ m, k = m + 1 := ⟨k - 1, by omega⟩
    refine ⟨-1, ?_, ?_⟩
    · simp only [slices_IndexFunc_int_int__impl_AreBytes_1.l0]
      rw [if_neg (show ¬ (i : Int) < (l.length : Int) by omega)]
    · rw [drop_all l i (by omega)]; rfl
  | succ d ih =>
    intro i hi k hk
    obtain ⟨k, rfl⟩ : ∃ m, k = m + 1 := ⟨k - 1, by omega⟩
    have hlt : i < l.length := by omega
    simp only [slices_IndexFunc_int_int__impl_AreBytes_1.l0]
    rw [if_pos (show (i : Int) < (l.length : Int) by omega), if_pos (show (0 : Int) ≤ (i : Int) by omega), if_pos (show (i : Int) < (l.length : Int) by omega), rd_lt l i hlt, notByte_eq l[i]]
    simp only [Option.bind_some]
    by_cases hp : (fun x => !byteB x) l[i] = true
    · rw [if_pos hp]
      exact ⟨_, rfl, by rw [any_drop_yes l i hlt _ hp, decide_eq_true (by omega)]⟩
    · rw [if_neg hp, wrap_succ i (by omega)]
      obtain ⟨r, h1, h2⟩ := ih (i + 1) (by omega) k (by omega)
      exact ⟨r, h1, by rw [h2, any_drop_no l i hlt _ hp]⟩

theorem cBytes_ev (l : List (Int)) (hl : l.length ≤ 1048580) (k : Nat) (hk : 0 + l.length < k) : slices_ContainsFunc_int_int__impl_AreBytes_1.f k l = some (l.any (fun x => !byteB x)) := by
  obtain ⟨r, h1, h2⟩ := cBytes_l0 l hl l.length 0 (by omega) k hk
  unfold slices_ContainsFunc_int_int__impl_AreBytes_1.f slices_IndexFunc_int_int__impl_AreBytes_1.f
  have c0 : ((0 : Nat) : Int) = 0 := rfl
  rw [c0] at h1
  rw [h1]
  simp only [Option.bind_some]
  rw [h2]; rfl

theorem iAreBytes_ev (l : List Int) (k : Nat) (hk : 40 < k) : impl_AreBytes.f k l = some (bytesB l) := by
  unfold impl_AreBytes.f bytesB
  by_cases h : (l.length : Int) ≤ 40
  · rw [if_pos h, cBytes_ev l (by omega) k (by omega)]
    simp only [Option.bind_some]
    rw [any_not, decide_eq_true (show l.length ≤ 40 by omega), Bool.and_true]
  · rw [if_neg h, decide_eq_false (show ¬ l.length ≤ 40 by omega), Bool.and_false]

def seqB (x : Int) : Bool := decide (0 ≤ x ∧ x ≤ 15)

def recB (a : Int) (l : List (List Int)) : Bool := l.all bytesB && (seqB a && decide (l.length ≤ 1000))

theorem iIsSeq_eq (a : Int) : impl_IsSeq.f a = some (seqB a) := by
  unfold impl_IsSeq.f; rw [within_eq]; rfl

theorem notBytes_eq (k : Nat) (hk : 40 < k) (x : List Int) : impl_areLists_1.f k x = some (!bytesB x) := by
  unfold impl_areLists_1.f
  rw [iAreBytes_ev x k hk]
  rfl

theorem cLists_l0 (l : List (List Int)) (hl : l.length ≤ 1048576) (d : Nat) : ∀ i : Nat, i + d = l.length → ∀ k, 41 + d < k → ∃ r, slices_IndexFunc_int_int__impl_areLists_1.l0 k l (l.length : Int) (i : Int) = some r ∧ decide (r ≥ 0) = (l.drop i).any (fun x => !bytesB x) := by
  induction d with
  | zero =>
    intro i hi k hk
    obtain ⟨k, rfl⟩ : ∃ m, k = m + 1 := ⟨k - 1, by omega⟩
    refine ⟨-1, ?_, ?_⟩
    · simp only [slices_IndexFunc_int_int__impl_areLists_1.l0]
      rw [if_neg (show ¬ (i : Int) < (l.length : Int) by omega)]
    · rw [drop_all l i (by omega)]; rfl
  | succ d ih =>
    intro i hi k hk
    obtain ⟨k, rfl⟩ : ∃ m, k = m + 1 := ⟨k - 1, by omega⟩
    have hlt : i < l.length := by omega
    simp only [slices_IndexFunc_int_int__impl_areLists_1.l0]
    rw [if_pos (show (i : Int) < (l.length : Int) by omega), if_pos (show (0 : Int) ≤ (i : Int) by omega), if_pos (show (i : Int) < (l.length : Int) by omega), rdL_lt l i hlt, notBytes_eq k (by omega) l[i]]
    simp only [Option.bind_some]
    by_cases hp : (fun x => !bytesB x) l[i] = true
    · rw [if_pos hp]
      exact ⟨_, rfl, by rw [any_drop_yes l i hlt _ hp, decide_eq_true (by omega)]⟩
    · rw [if_neg hp, wrap_succ i (by omega)]
      obtain ⟨r, h1, h2⟩ := ih (i + 1) (by omega) k (by omega)
      exact ⟨r, h1, by rw [h2, any_drop_no l i hlt _ hp]⟩

theorem cLists_ev (l : List (List Int)) (hl : l.length ≤ 1048576) (k : Nat) (hk : 41 + l.length < k) : slices_ContainsFunc_int_int__impl_areLists_1.f k l = some (l.any (fun x => !bytesB x)) := by
  obtain ⟨r, h1, h2⟩ := cLists_l0 l hl l.length 0 (by omega) k hk
  unfold slices_ContainsFunc_int_int__impl_areLists_1.f slices_IndexFunc_int_int__impl_areLists_1.f
  have c0 : ((0 : Nat) : Int) = 0 := rfl
  rw [c0] at h1
  rw [h1]
  simp only [Option.bind_some]
  rw [h2]; rfl

theorem iAreLists_ev (l : List (List Int)) (hl : l.length ≤ 1048576) (k : Nat) (hk : 1048620 < k) : impl_areLists.f k l = some (l.all bytesB) := by
  unfold impl_areLists.f
  rw [cLists_ev l hl k (by omega)]
  simp only [Option.bind_some]
  rw [any_not]

theorem iReceiverOk_ev (a : Int) (l : List (List Int)) (hl : l.length ≤ 1048576) (k : Nat) (hk : 1048620 < k) : impl_ReceiverOk.f k a l = some (recB a l) := by
  unfold impl_ReceiverOk.f recB
  rw [iIsSeq_eq]
  simp only [Option.bind_some]
  by_cases hs : seqB a = true
  · rw [if_pos hs, hs]
    by_cases h : (l.length : Int) ≤ 1000
    · rw [if_pos h, iAreLists_ev l hl k hk, decide_eq_true (show l.length ≤ 1000 by omega)]
      simp
    · rw [if_neg h, decide_eq_false (show ¬ l.length ≤ 1000 by omega)]
      simp
  · rw [if_neg hs, Bool.eq_false_iff.mpr hs]
    simp

theorem equal_l0 (a b : List Int) (hl : a.length = b.length) (hb : a.length < 9223372036854775807) (d : Nat) : ∀ (i : Nat), i + d = a.length → ∀ k, d < k → slices_Equal_int_int.l0 k a b (((a.length : Nat) : Int)) (i : Int) = some (decide (a.drop i = b.drop i)) := by
  induction d with
  | zero =>
    intro i hi k hk
    obtain ⟨k, rfl⟩ : ∃ m, k = m + 1 := ⟨k - 1, by omega⟩
    simp only [slices_Equal_int_int.l0]
    rw [if_neg (show ¬ (i : Int) < (a.length : Int) by omega), drop_all a i (by omega), drop_all b i (by omega)]
    simp
  | succ d ih =>
    intro i hi k hk
    obtain ⟨k, rfl⟩ : ∃ m, k = m + 1 := ⟨k - 1, by omega⟩
    simp only [slices_Equal_int_int.l0]
    rw [if_pos (show (i : Int) < (a.length : Int) by omega), if_pos (show (0 : Int) ≤ (i : Int) by omega), if_pos (show (i : Int) < (a.length : Int) by omega), if_pos (show (i : Int) < (b.length : Int) by omega)]
    by_cases he : rd a (i : Int) = rd b (i : Int)
    · rw [if_pos he, wrap_succ i (by omega), ih (i + 1) (by omega) k (by omega)]
      congr 1
      rw [decide_eq_decide, drop_eq_iff a b i (by omega) (by omega)]
      exact ⟨fun h => ⟨he, h⟩, fun h => h.2⟩
    · rw [if_neg he]
      congr 1
      symm
      rw [decide_eq_false_iff_not, drop_eq_iff a b i (by omega) (by omega)]
      exact fun h => he h.1

theorem equal_ev (a b : List Int) (hb : a.length < 9223372036854775807) : ∀ k, a.length < k → slices_Equal_int_int.f k a b = some (decide (a = b)) := by
  intro k hk
  unfold slices_Equal_int_int.f
  by_cases hl : a.length = b.length
  · rw [if_pos (by omega)]
    exact equal_l0 a b hl hb a.length 0 (by omega) k hk
  · rw [if_neg (by omega), decide_eq_false (fun h => hl (by rw [h]))]

theorem ofInt_64g (a : Nat) (ha : a < 131072) : (BitVec.ofInt 64 (a : Int)).toNat = a := by
  rw [BitVec.toNat_ofInt]; omega

theorem i64_xor_natg (a b : Nat) (ha : a < 131072) (hb : b < 131072) : Go.bits .xor .i64 (a : Int) (b : Int) = ((a ^^^ b : Nat) : Int) := by
  have hx : a ^^^ b < 2 ^ 17 := Nat.xor_lt_two_pow (by omega) (by omega)
  show IntKind.i64.wrap ((BitVec.ofInt 64 (a : Int) ^^^ BitVec.ofInt 64 (b : Int)).toNat : Int) = _
  rw [BitVec.toNat_xor, ofInt_64g a ha, ofInt_64g b hb, IntKind.wrap_i64]
  omega

theorem xor_small (a b : Int) (ha : 0 ≤ a ∧ a ≤ 65535) (hb : 0 ≤ b ∧ b ≤ 65535) : 0 ≤ Go.bits .xor .i64 a b ∧ Go.bits .xor .i64 a b ≤ 65535 := by
  obtain ⟨x, rfl⟩ := Int.eq_ofNat_of_zero_le ha.1
  obtain ⟨y, rfl⟩ := Int.eq_ofNat_of_zero_le hb.1
  have hx : x ^^^ y < 2 ^ 16 := Nat.xor_lt_two_pow (by omega) (by omega)
  rw [i64_xor_natg x y (by omega) (by omega)]
  omega

theorem xor_top (a : Int) (ha : 65536 ≤ a ∧ a ≤ 131071) : 0 ≤ Go.bits .xor .i64 a 69665 ∧ Go.bits .xor .i64 a 69665 ≤ 65535 := by
  obtain ⟨x, rfl⟩ := Int.eq_ofNat_of_zero_le (show 0 ≤ a by omega)
  have hx : x ^^^ 69665 < 2 ^ 16 := by
    apply Nat.lt_pow_two_of_testBit
    intro i hi
    rw [Nat.testBit_xor]
    by_cases h : i = 16
    · subst h
      have h1 : x.testBit 16 = true := by rw [Nat.testBit_eq_decide_div_mod_eq]; exact decide_eq_true (by omega)
      rw [h1]
      decide
    · have hp : 2 ^ 17 ≤ 2 ^ i := Nat.pow_le_pow_right (by omega) (by omega)
      rw [Nat.testBit_lt_two_pow (show x < 2 ^ i by omega), Nat.testBit_lt_two_pow (show 69665 < 2 ^ i by omega)]
      rfl
  rw [show (69665 : Int) = ((69665 : Nat) : Int) from rfl, i64_xor_natg x 69665 (by omega) (by omega)]
  omega

/-- The check's steps. -/
def ckb : Nat → Int → Int
  | 0, s => s
  | d + 1, s => ckb d (if wrap64 (s * 2) > 65535 then Go.bits .xor .i64 (wrap64 (s * 2)) 69665 else wrap64 (s * 2))

def ck : Int → List Int → Int
  | s, [] => s
  | s, b :: r => ck (ckb 8 (Go.bits .xor .i64 s (wrap64 (b * 256)))) r

theorem ckb_range (d : Nat) : ∀ s : Int, 0 ≤ s ∧ s ≤ 65535 → 0 ≤ ckb d s ∧ ckb d s ≤ 65535 := by
  induction d with
  | zero => intro s h; exact h
  | succ d ih =>
    intro s h
    have hw : wrap64 (s * 2) = s * 2 := wrap_id _ (by omega)
    rw [ckb, hw]
    apply ih
    by_cases h1 : s * 2 > 65535
    · rw [if_pos h1]; exact xor_top _ (by omega)
    · rw [if_neg h1]; omega

theorem ck_range (l : List Int) : ∀ s : Int, 0 ≤ s ∧ s ≤ 65535 → l.all byteB = true → 0 ≤ ck s l ∧ ck s l ≤ 65535 := by
  induction l with
  | nil => intro s h _; exact h
  | cons b r ih =>
    intro s h hb
    rw [List.all_cons, Bool.and_eq_true] at hb
    have hb0 : 0 ≤ b ∧ b ≤ 255 := of_decide_eq_true hb.1
    have hw : wrap64 (b * 256) = b * 256 := wrap_id _ (by omega)
    rw [ck, hw]
    exact ih _ (ckb_range 8 _ (xor_small _ _ h (by omega))) hb.2

theorem iCheck_l1 (l : List Int) (n i : Int) (d : Nat) : ∀ (j : Nat) (s : Int), j + d = 8 → ∀ k, impl_CheckOf.l1 (k + d + 1) s l n i (j : Int) = impl_CheckOf.l0 k (ckb d s) l n (wrap64 (i + 1)) := by
  induction d with
  | zero =>
    intro j s hj k
    simp only [impl_CheckOf.l1]
    rw [if_neg (by omega)]
    rfl
  | succ d ih =>
    intro j s hj k
    rw [show k + (d + 1) + 1 = (k + d + 1) + 1 from rfl]
    simp only [impl_CheckOf.l1]
    rw [if_pos (show (j : Int) < 8 by omega), wrap_succ j (by omega), ckb]
    by_cases h : wrap64 (s * 2) > 65535
    · rw [if_pos h, if_pos h]; exact ih (j + 1) _ (by omega) k
    · rw [if_neg h, if_neg h]; exact ih (j + 1) _ (by omega) k

theorem iCheck_l0 (l : List Int) (hl : l.length ≤ 1048576) (d : Nat) : ∀ (i : Nat) (s : Int), i + d = l.length → ∀ k, 10 * d < k → impl_CheckOf.l0 k s l (l.length : Int) (i : Int) = some (ck s (l.drop i)) := by
  induction d with
  | zero =>
    intro i s hi k hk
    obtain ⟨k, rfl⟩ : ∃ m, k = m + 1 := ⟨k - 1, by omega⟩
    simp only [impl_CheckOf.l0]
    rw [if_neg (by omega), drop_all l i (by omega)]
    rfl
  | succ d ih =>
    intro i s hi k hk
    obtain ⟨k, rfl⟩ : ∃ m, k = m + 8 + 1 + 1 := ⟨k - 10, by omega⟩
    have hlt : i < l.length := by omega
    rw [impl_CheckOf.l0]
    rw [if_pos (by omega), if_pos (by omega), if_pos (by omega), rd_lt l i hlt]
    rw [show (0 : Int) = ((0 : Nat) : Int) from rfl, iCheck_l1 l (l.length : Int) (i : Int) 8 0 _ (by omega) k, wrap_succ i (by omega), ih (i + 1) _ (by omega) k (by omega), drop_cons l i hlt]
    rfl

theorem iCheck_ev (l : List Int) (h : bytesB l = true) (k : Nat) (hk : 1000 < k) : impl_CheckOf.f k l = some (ck 65535 l) := by
  have h40 : l.length ≤ 40 := by unfold bytesB at h; simp at h; exact h.2
  unfold impl_CheckOf.f
  rw [iAreBytes_ev l k (by omega), h]
  simp only [Option.bind_some, if_true]
  exact iCheck_l0 l (by omega) l.length 0 _ (by omega) k (by omega)

theorem clone_ev (l : List Int) (hl : l.length ≤ 1048580) : slices_Clone_int_int.f l = some l := by
  unfold slices_Clone_int_int.f
  simp only [Option.bind_some, List.nil_append, List.length_nil]
  rw [if_pos (by omega)]

/-- Bytes with their check behind them. -/
def addCk (l : List Int) : List Int := l ++ [ck 65535 l / 256, ck 65535 l % 256]

theorem split_ev (c : Int) (h : 0 ≤ c ∧ c ≤ 65535) : impl_SplitWord.f c = some (c / 256, c % 256) := by
  unfold impl_SplitWord.f impl_isWord.f
  rw [within_eq, decide_eq_true h]
  simp only [Option.bind_some, if_true]
  rw [Int.tdiv_eq_ediv_of_nonneg h.1, Int.tmod_eq_emod_of_nonneg h.1, wrap_id _ (by omega)]

theorem bytesB_iff (l : List Int) : bytesB l = true ↔ l.all byteB = true ∧ l.length ≤ 40 := by
  unfold bytesB
  rw [Bool.and_eq_true, decide_eq_true_eq]

theorem iAddCheck_ev (l : List Int) (hl : l.length ≤ 1048580) (k : Nat) (hk : 1100 < k) : impl_AddCheck.f k l = some (if bytesB l = true ∧ l.length ≤ 38 then addCk l else []) := by
  obtain ⟨k, rfl⟩ : ∃ m, k = m + 1 := ⟨k - 1, by omega⟩
  unfold impl_AddCheck.f
  rw [iAreBytes_ev l _ (by omega)]
  simp only [Option.bind_some, impl_AddCheck.j0]
  by_cases hb : bytesB l = true
  · rw [if_pos hb]
    by_cases h38 : (l.length : Int) > 38
    · rw [decide_eq_true h38, if_pos rfl, if_neg (by omega)]
    · have hc := ck_range l 65535 (by omega) ((bytesB_iff l).1 hb).1
      rw [decide_eq_false h38, if_neg (by decide), if_pos ⟨hb, by omega⟩, iCheck_ev l hb _ (by omega)]
      simp only [Option.bind_some]
      rw [split_ev _ hc]
      simp only [Option.bind_some]
      rw [clone_ev l hl]
      simp only [Option.bind_some]
      rw [if_pos (by simp; omega)]
      rfl
  · rw [if_neg hb, if_pos trivial, if_neg (fun h => hb h.1)]

/-- A row of bytes that ends with the check of what stands before. -/
def takeOk (l : List Int) : Prop := 2 ≤ l.length ∧ bytesB l = true ∧ addCk (l.take (l.length - 2)) = l
instance (l : List Int) : Decidable (takeOk l) := by unfold takeOk; infer_instance

def tcR (l : List Int) : List Int × Bool := if takeOk l then (l.take (l.length - 2), true) else ([], false)

theorem bytesB_take (l : List Int) (n : Nat) (h : bytesB l = true) : bytesB (l.take n) = true := by
  rw [bytesB_iff] at h ⊢
  refine ⟨List.all_eq_true.mpr fun x hx => List.all_eq_true.mp h.1 x (List.mem_of_mem_take hx), ?_⟩
  rw [List.length_take]
  omega

theorem iTakeCheck_ev (l : List Int) (hl : l.length ≤ 1048576) (k : Nat) (hk : 1200 < k) : impl_TakeCheck.f k l = some (tcR l) := by
  unfold impl_TakeCheck.f tcR
  have hw : wrap64 ((l.length : Int) - 2) = (l.length : Int) - 2 := wrap_id _ (by omega)
  rw [hw]
  by_cases h2 : (l.length : Int) - 2 < 0
  · rw [if_pos h2, if_neg (fun h => by have := h.1; omega)]
  rw [if_neg h2, iAreBytes_ev l k (by omega)]
  simp only [Option.bind_some]
  by_cases hb : bytesB l = true
  · have hn : ((l.length : Int) - 2).toNat = l.length - 2 := by omega
    have h40 := ((bytesB_iff l).1 hb).2
    rw [if_pos hb, if_pos (by omega), if_pos (by omega), hn, iAddCheck_ev (l.take (l.length - 2)) (by rw [List.length_take]; omega) k (by omega)]
    simp only [Option.bind_some]
    rw [if_pos ⟨bytesB_take l _ hb, by rw [List.length_take]; omega⟩, equal_ev _ _ (by simp only [addCk, List.length_append, List.length_take, List.length_cons, List.length_nil]; omega) k (by simp only [addCk, List.length_append, List.length_take, List.length_cons, List.length_nil]; omega)]
    simp only [Option.bind_some]
    by_cases he : addCk (l.take (l.length - 2)) = l
    · rw [if_pos (decide_eq_true he), clone_ev _ (by rw [List.length_take]; omega), if_pos ⟨by omega, hb, he⟩]
      rfl
    · rw [decide_eq_false he, if_neg (by decide), if_neg (fun h => he h.2.2)]
  · rw [if_neg hb, if_neg (fun h => hb h.2.1)]

def twR (l : List Int) : Int × List Int × Bool := if takeOk l then (match l.take (l.length - 2) with | [] => (0, [], false) | a :: r => if seqB a = true then (a, r, true) else (0, [], false)) else (0, [], false)

theorem iTakeWire_ev (l : List Int) (hl : l.length ≤ 1048576) (k : Nat) (hk : 1200 < k) : impl_TakeWire.f k l = some (twR l) := by
  unfold impl_TakeWire.f twR
  rw [iTakeCheck_ev l hl k hk]
  simp only [Option.bind_some]
  unfold tcR
  by_cases h : takeOk l
  · simp only [if_pos h, if_true]
    generalize l.take (l.length - 2) = m
    cases m with
    | nil => rfl
    | cons a r =>
      have r0 : rd (a :: r) 0 = a := rfl
      have d1 : (a :: r).drop (1 : Int).toNat = r := rfl
      rw [if_neg (by simp only [List.length_cons]; omega), if_pos (by simp only [List.length_cons]; omega), r0, iIsSeq_eq, d1]
      simp only [Option.bind_some]
      by_cases hs : seqB a = true
      · rw [if_pos hs, if_pos (by simp only [List.length_cons]; omega), if_pos hs]
      · rw [if_neg hs, if_neg hs]
  · simp only [if_neg h, if_false]
    rfl

/-- The steps from a sequence number to another. -/
def stepsTo (n x : Int) : Int := if seqB n = true ∧ seqB x = true then (x - n + 16) % 16 else -1

def oldB (n x : Int) : Bool := decide (1 ≤ stepsTo n x ∧ stepsTo n x ≤ 7)

theorem iDist_ev (n x : Int) : impl_SeqDistance.f n x = some (stepsTo n x) := by
  unfold impl_SeqDistance.f stepsTo
  rw [iIsSeq_eq, iIsSeq_eq]
  simp only [Option.bind_some]
  by_cases h1 : seqB n = true
  · by_cases h2 : seqB x = true
    · have g1 : 0 ≤ n ∧ n ≤ 15 := of_decide_eq_true h1
      have g2 : 0 ≤ x ∧ x ≤ 15 := of_decide_eq_true h2
      rw [if_pos h1, if_pos h2, if_pos ⟨h1, h2⟩, wrap_id (x - n) (by omega), wrap_id _ (by omega), Int.tmod_eq_emod_of_nonneg (by omega)]
    · rw [if_pos h1, if_neg h2, if_neg (fun h => h2 h.2)]
  · rw [if_neg h1, if_neg (fun h => h1 h.1)]

theorem iIsOld_ev (n x : Int) : impl_IsOld.f n x = some (oldB n x) := by
  unfold impl_IsOld.f oldB
  rw [iDist_ev]
  simp only [Option.bind_some]
  rw [within_eq]
  rfl

/-- The verdict on a row of bytes. -/
def judR (e : Int) (l : List (List Int)) (w : List Int) : Int := if (twR w).2.2 = true ∧ recB e l = true then if (twR w).1 = e then 0 else if oldB (twR w).1 e = true then 1 else 2 else 3

theorem iJudge_ev (e : Int) (l : List (List Int)) (w : List Int) (hl : l.length ≤ 1048576) (hw : w.length ≤ 1048576) (k : Nat) (hk : 1048700 < k) : impl_Judge.f k e l w = some (judR e l w) := by
  obtain ⟨k, rfl⟩ : ∃ m, k = m + 1 := ⟨k - 1, by omega⟩
  unfold impl_Judge.f judR
  rw [iTakeWire_ev w hw _ (by omega)]
  simp only [Option.bind_some, impl_Judge.j0]
  by_cases h1 : (twR w).2.2 = true
  · rw [if_pos h1, iReceiverOk_ev e l hl _ (by omega)]
    simp only [Option.bind_some]
    by_cases h2 : recB e l = true
    · rw [h2, if_neg (by decide), if_pos (show (twR w).2.2 = true ∧ true = true from ⟨h1, rfl⟩)]
      by_cases h3 : (twR w).1 = e
      · rw [if_pos h3, if_pos h3]
      · rw [if_neg h3, if_neg h3, iIsOld_ev]
        simp only [Option.bind_some]
        by_cases h4 : oldB (twR w).1 e = true
        · rw [if_pos h4, if_pos h4]
        · rw [if_neg h4, if_neg h4]
    · rw [Bool.eq_false_iff.mpr h2, if_pos (by decide), if_neg (show ¬ ((twR w).2.2 = true ∧ false = true) from fun h => by cases h.2)]
  · rw [if_neg h1, if_pos trivial, if_neg (fun h => h1 h.1)]

theorem twR_len (l : List Int) : (twR l).2.1.length ≤ 40 := by
  unfold twR
  by_cases h : takeOk l
  · have h40 := ((bytesB_iff l).1 h.2.1).2
    rw [if_pos h]
    have hm : (l.take (l.length - 2)).length ≤ 40 := by rw [List.length_take]; omega
    generalize l.take (l.length - 2) = m at hm
    cases m with
    | nil => simp
    | cons a r =>
      simp only [List.length_cons] at hm
      by_cases hs : seqB a = true
      · simp only [hs, if_true]; omega
      · simp only [hs]; simp
  · rw [if_neg h]; simp

theorem copyLists_l0 (l : List (List Int)) (hl : l.length ≤ 1048576) (hs : ∀ x ∈ l, SmallE x) (d : Nat) : ∀ i : Nat, i + d = l.length → ∀ k, d < k → impl_copyLists.l0 k (l.take i) l (l.length : Int) (i : Int) = some l := by
  induction d with
  | zero =>
    intro i hi k hk
    obtain ⟨k, rfl⟩ : ∃ m, k = m + 1 := ⟨k - 1, by omega⟩
    simp only [impl_copyLists.l0]
    rw [if_neg (by omega), take_all l i (by omega)]
  | succ d ih =>
    intro i hi k hk
    obtain ⟨k, rfl⟩ : ∃ m, k = m + 1 := ⟨k - 1, by omega⟩
    simp only [impl_copyLists.l0]
    rw [if_pos (by omega), if_pos (by omega), if_pos (by omega), rdL_lt l i (by omega), clone_ev l[i] (Nat.le_trans (show (l[i]).length ≤ 1048576 from hs _ (List.getElem_mem (by omega))) (by omega))]
    simp only [Option.bind_some]
    rw [if_pos (by rw [List.length_take]; omega), ← take_snoc l i (by omega), wrap_succ i (by omega)]
    exact ih (i + 1) (by omega) k (by omega)

theorem copyLists_ev (l : List (List Int)) (hl : l.length ≤ 1048576) (hs : ∀ x ∈ l, SmallE x) (k : Nat) (hk : l.length < k) : impl_copyLists.f k l = some l := by
  unfold impl_copyLists.f
  exact copyLists_l0 l hl hs l.length 0 (by omega) k hk

def nxE (a : Int) : Int := if seqB a = true then Int.tmod (wrap64 (a + 1)) 16 else -1

theorem iNext_ev (a : Int) : impl_NextSeq.f a = some (nxE a) := by
  unfold impl_NextSeq.f nxE
  rw [iIsSeq_eq]
  simp only [Option.bind_some]
  by_cases h : seqB a = true
  · rw [if_pos h, if_pos h]
  · rw [if_neg h, if_neg h]

theorem iCopyR_ev (a : Int) (l : List (List Int)) (hl : l.length ≤ 1048576) (he : ∀ x ∈ l, SmallE x) (k : Nat) (hk : 2097160 < k) : impl_copyReceiver.f k a l = some (a, l) := by
  unfold impl_copyReceiver.f
  rw [copyLists_ev l hl he k (by omega)]
  rfl

def tfR (a : Int) (l : List (List Int)) (w : List Int) : Int × List (List Int) × Int := if judR a l w = 0 then (if (l.length : Int) = 1000 then (a, l, 2) else (nxE a, l ++ [(twR w).2.1], 0)) else (a, l, judR a l w)

theorem iTake_ev (a : Int) (l : List (List Int)) (w : List Int) (hl : l.length ≤ 1048576) (hw : w.length ≤ 1048576) (he : ∀ x ∈ l, SmallE x) (k : Nat) (hk : 2097300 < k) : impl_TakeFrame.f k a l w = some (tfR a l w) := by
  unfold impl_TakeFrame.f tfR
  rw [iCopyR_ev a l hl he k (by omega)]
  simp only [Option.bind_some]
  rw [iJudge_ev a l w hl hw k (by omega)]
  simp only [Option.bind_some]
  have h40 := twR_len w
  by_cases h : judR a l w = 0
  · rw [if_pos h, if_pos h]
    by_cases h2 : (l.length : Int) = 1000
    · rw [if_pos h2, if_pos h2]
    · rw [if_neg h2, if_neg h2, iTakeWire_ev w hw k (by omega)]
      simp only [Option.bind_some]
      rw [clone_ev _ (by omega)]
      simp only [Option.bind_some]
      rw [if_pos (by omega), iNext_ev]
      rfl
  · rw [if_neg h, if_neg h]

def SmallG (x : S66) : Prop := x.f1.length ≤ 1048576

theorem rdG_lt (l : List (S66)) (i : Nat) (h : i < l.length) : rd_T66 l (i : Int) = l[i] := by
  show l.getD i z66 = l[i]
  simp [h]

/-- How far the second number stands behind the first, round the ring; -1 where one is none. -/
def sdI (a b : Int) : Int := if seqB a = true then (if seqB b = true then Int.tmod (wrap64 ((wrap64 (b - a)) + 16)) 16 else -1) else -1

theorem iSeqDist_eq (a b : Int) : impl_SeqDistance.f a b = some (sdI a b) := by
  unfold impl_SeqDistance.f sdI
  rw [iIsSeq_eq, iIsSeq_eq]
  cases seqB a <;> cases seqB b <;> rfl

def frOk (s : Int) (n : Nat) : Nat → List S66 → Bool
  | _, [] => true
  | i, x :: r => decide (sdI x.f0 s = wrap64 ((n : Int) - (i : Int))) && (bytesB x.f1 && frOk s n (i + 1) r)

def sndB (s : Int) (l : List S66) (r : Int) : Bool := seqB s && (decide (l.length ≤ 7) && (decide (0 ≤ r ∧ r ≤ (l.length : Int)) && frOk s l.length 0 l))

theorem impl_frames (s : Int) (l : List S66) (r : Int) (hl : l.length ≤ 7) (hs : ∀ x ∈ l, SmallG x) (d : Nat) : ∀ i : Nat, i + d = l.length → ∀ k, 1048600 + d < k → impl_SenderOk.l0 k (l.length : Int) l (l.length : Int) (i : Int) s l r = some (frOk s l.length i (l.drop i)) := by
  induction d with
  | zero =>
    intro i hi k hk
    obtain ⟨k, rfl⟩ : ∃ m, k = m + 1 := ⟨k - 1, by omega⟩
    simp only [impl_SenderOk.l0]
    rw [if_neg (show ¬ (i : Int) < (l.length : Int) by omega), drop_all l i (by omega)]
    rfl
  | succ d ih =>
    intro i hi k hk
    obtain ⟨k, rfl⟩ : ∃ m, k = m + 1 := ⟨k - 1, by omega⟩
    have hlt : i < l.length := by omega
    have hsm := hs _ (List.getElem_mem hlt)
    unfold SmallG at hsm
    have ih := ih (i + 1) (by omega) k (by omega)
    simp only [impl_SenderOk.l0]
    rw [if_pos (show (i : Int) < (l.length : Int) by omega), if_pos (show (0 : Int) ≤ (i : Int) by omega), if_pos (show (i : Int) < (l.length : Int) by omega), rdG_lt l i hlt, iSeqDist_eq, drop_cons l i hlt]
    simp only [Option.bind_some, frOk]
    by_cases hd : sdI l[i].f0 s = wrap64 ((l.length : Int) - (i : Int))
    · rw [if_pos hd, decide_eq_true hd, iAreBytes_ev l[i].f1 k (by omega)]
      simp only [Option.bind_some]
      by_cases hb : bytesB l[i].f1 = true
      · rw [if_pos hb, hb, wrap_succ i (by omega), ih]
        rfl
      · rw [if_neg hb, Bool.eq_false_iff.mpr hb]
        rfl
    · rw [if_neg hd, decide_eq_false hd]
      rfl

theorem iSenderOk_ev (s : Int) (l : List S66) (r : Int) (hs : ∀ x ∈ l, SmallG x) (k : Nat) (hk : 1048700 < k) : impl_SenderOk.f k s l r = some (sndB s l r) := by
  obtain ⟨k, rfl⟩ : ∃ m, k = m + 1 := ⟨k - 1, by omega⟩
  unfold impl_SenderOk.f sndB
  rw [iIsSeq_eq]
  simp only [Option.bind_some]
  by_cases h1 : seqB s = true
  · rw [if_pos h1, h1]
    by_cases h2 : l.length ≤ 7
    · rw [if_neg (by omega), within_eq, decide_eq_true h2]
      simp only [Option.bind_some, impl_SenderOk.j0]
      by_cases h3 : 0 ≤ r ∧ r ≤ (l.length : Int)
      · rw [decide_eq_true h3, if_neg (by decide)]
        have h := impl_frames s l r h2 hs l.length 0 (by omega) k (by omega)
        have c0 : ((0 : Nat) : Int) = 0 := rfl
        rw [c0] at h
        rw [h]
        rfl
      · rw [decide_eq_false h3, if_pos (by decide)]
        rfl
    · rw [if_pos (by omega), decide_eq_false h2]
      simp only [impl_SenderOk.j0]
      rfl
  · rw [if_neg h1, Bool.eq_false_iff.mpr h1]
    simp only [impl_SenderOk.j0]
    rfl

def ackB (v : Int) : Bool := seqB v || decide (100 ≤ v ∧ v ≤ 115)

def lnkB (s : Int) (l : List S66) (r e : Int) (h w : List (List Int)) (a : List Int) : Bool := sndB s l r && (recB e h && (decide (w.length ≤ 8) && (decide (a.length ≤ 8) && (w.all bytesB && a.all ackB))))

theorem notAck_eq (v : Int) : impl_LinkOk_1.f v = some (!ackB v) := by
  unfold impl_LinkOk_1.f ackB
  rw [iIsSeq_eq, within_eq]
  cases seqB v <;> rfl

theorem cAcks_l0 (l : List (Int)) (hl : l.length ≤ 1048576) (d : Nat) : ∀ i : Nat, i + d = l.length → ∀ k, 0 + d < k → ∃ r, slices_IndexFunc_int_int__impl_LinkOk_1.l0 k l (l.length : Int) (i : Int) = some r ∧ decide (r ≥ 0) = (l.drop i).any (fun x => !ackB x) := by
  induction d with
  | zero =>
    intro i hi k hk
    obtain ⟨k, rfl⟩ : ∃ m, k = m + 1 := ⟨k - 1, by omega⟩
    refine ⟨-1, ?_, ?_⟩
    · simp only [slices_IndexFunc_int_int__impl_LinkOk_1.l0]
      rw [if_neg (show ¬ (i : Int) < (l.length : Int) by omega)]
    · rw [drop_all l i (by omega)]; rfl
  | succ d ih =>
    intro i hi k hk
    obtain ⟨k, rfl⟩ : ∃ m, k = m + 1 := ⟨k - 1, by omega⟩
    have hlt : i < l.length := by omega
    simp only [slices_IndexFunc_int_int__impl_LinkOk_1.l0]
    rw [if_pos (show (i : Int) < (l.length : Int) by omega), if_pos (show (0 : Int) ≤ (i : Int) by omega), if_pos (show (i : Int) < (l.length : Int) by omega), rd_lt l i hlt, notAck_eq l[i]]
    simp only [Option.bind_some]
    by_cases hp : (fun x => !ackB x) l[i] = true
    · rw [if_pos hp]
      exact ⟨_, rfl, by rw [any_drop_yes l i hlt _ hp, decide_eq_true (by omega)]⟩
    · rw [if_neg hp, wrap_succ i (by omega)]
      obtain ⟨r, h1, h2⟩ := ih (i + 1) (by omega) k (by omega)
      exact ⟨r, h1, by rw [h2, any_drop_no l i hlt _ hp]⟩

theorem cAcks_ev (l : List (Int)) (hl : l.length ≤ 1048576) (k : Nat) (hk : 0 + l.length < k) : slices_ContainsFunc_int_int__impl_LinkOk_1.f k l = some (l.any (fun x => !ackB x)) := by
  obtain ⟨r, h1, h2⟩ := cAcks_l0 l hl l.length 0 (by omega) k hk
  unfold slices_ContainsFunc_int_int__impl_LinkOk_1.f slices_IndexFunc_int_int__impl_LinkOk_1.f
  have c0 : ((0 : Nat) : Int) = 0 := rfl
  rw [c0] at h1
  rw [h1]
  simp only [Option.bind_some]
  rw [h2]; rfl

theorem iLinkOk_ev (s : Int) (f : List S66) (r e : Int) (h w : List (List Int)) (a : List Int) (hf : ∀ x ∈ f, SmallG x) (hh : h.length ≤ 1048576) (hw : w.length ≤ 1048576) (k : Nat) (hk : 2097200 < k) : impl_LinkOk.f k s f r e h w a = some (lnkB s f r e h w a) := by
  unfold impl_LinkOk.f lnkB
  rw [iSenderOk_ev s f r hf k (by omega), iReceiverOk_ev e h hh k (by omega), iAreLists_ev w hw k (by omega)]
  simp only [Option.bind_some]
  cases sndB s f r
  · rfl
  cases recB e h
  · rfl
  by_cases h1 : w.length ≤ 8
  · by_cases h2 : a.length ≤ 8
    · rw [if_pos rfl, if_pos rfl, if_pos (show (w.length : Int) ≤ 8 by omega), if_pos (show (a.length : Int) ≤ 8 by omega), cAcks_ev a (by omega) k (by omega), decide_eq_true h1, decide_eq_true h2]
      simp only [Option.bind_some]
      rw [any_not]
      cases w.all bytesB <;> rfl
    · rw [if_pos rfl, if_pos rfl, if_pos (show (w.length : Int) ≤ 8 by omega), if_neg (show ¬ (a.length : Int) ≤ 8 by omega), decide_eq_true h1, decide_eq_false h2]
      cases w.all bytesB <;> rfl
  · rw [if_pos rfl, if_pos rfl, if_neg (show ¬ (w.length : Int) ≤ 8 by omega), decide_eq_false h1]
    cases w.all bytesB <;> rfl

/-! ### A sender, a link that are valid, told place by place -/
def SO (s : Int) (f : List S66) (r : Int) : Prop := (0 ≤ s ∧ s ≤ 15) ∧ f.length ≤ 7 ∧ (0 ≤ r ∧ r ≤ (f.length : Int)) ∧ ∀ (j : Nat) (x : S66), f[j]? = some x → (0 ≤ x.f0 ∧ x.f0 ≤ 15) ∧ (s - x.f0 + 16) % 16 = (f.length : Int) - (j : Int) ∧ bytesB x.f1 = true
def RO (e : Int) (h : List (List Int)) : Prop := (0 ≤ e ∧ e ≤ 15) ∧ h.length ≤ 1000 ∧ ∀ x ∈ h, bytesB x = true
def LK (s : Int) (f : List S66) (r e : Int) (h w : List (List Int)) (a : List Int) : Prop := SO s f r ∧ RO e h ∧ w.length ≤ 8 ∧ (∀ x ∈ w, bytesB x = true) ∧ a.length ≤ 8 ∧ ∀ v ∈ a, (0 ≤ v ∧ v ≤ 15) ∨ (100 ≤ v ∧ v ≤ 115)
theorem seq_iff (x : Int) : seqB x = true ↔ 0 ≤ x ∧ x ≤ 15 := by unfold seqB; exact decide_eq_true_iff
theorem sd_at (a b d : Int) (hd : 1 ≤ d) : sdI a b = d ↔ (0 ≤ a ∧ a ≤ 15) ∧ (0 ≤ b ∧ b ≤ 15) ∧ (b - a + 16) % 16 = d := by
  unfold sdI
  by_cases ha : seqB a = true
  · rw [if_pos ha]
    have ha' := (seq_iff a).mp ha
    by_cases hb : seqB b = true
    · rw [if_pos hb]
      have hb' := (seq_iff b).mp hb
      rw [wrap_id (b - a) (by omega), wrap_id (b - a + 16) (by omega), Int.tmod_eq_emod_of_nonneg (by omega)]
      exact ⟨fun h => ⟨ha', hb', h⟩, fun h => h.2.2⟩
    · rw [if_neg hb]
      exact ⟨fun h => by omega, fun h => absurd ((seq_iff b).mpr h.2.1) hb⟩
  · rw [if_neg ha]
    exact ⟨fun h => by omega, fun h => absurd ((seq_iff a).mpr h.1) ha⟩
theorem fr_iff (s : Int) (n : Nat) (hn : n ≤ 7) (hs : 0 ≤ s ∧ s ≤ 15) (l : List S66) : ∀ i : Nat, i + l.length = n → (frOk s n i l = true ↔ ∀ (j : Nat) (x : S66), l[j]? = some x → (0 ≤ x.f0 ∧ x.f0 ≤ 15) ∧ (s - x.f0 + 16) % 16 = (n : Int) - ((i + j : Nat) : Int) ∧ bytesB x.f1 = true) := by
  induction l with
  | nil => intro i _; exact ⟨fun _ j x h => by simp at h, fun _ => rfl⟩
  | cons y l ih =>
    intro i hi
    rw [List.length_cons] at hi
    have h1 := ih (i + 1) (by omega)
    have hw : wrap64 ((n : Int) - (i : Int)) = (n : Int) - (i : Int) := wrap_id _ (by omega)
    have hsd := sd_at y.f0 s ((n : Int) - (i : Int)) (by omega)
    simp only [frOk, Bool.and_eq_true, decide_eq_true_eq, hw, h1, hsd]
    constructor
    · rintro ⟨⟨g1, _, g2⟩, g3, g4⟩ j x hx
      cases j with
      | zero => rw [List.getElem?_cons_zero] at hx; cases hx; exact ⟨g1, by rw [g2]; omega, g3⟩
      | succ j =>
        rw [List.getElem?_cons_succ] at hx
        have := g4 j x hx
        exact ⟨this.1, by rw [this.2.1]; omega, this.2.2⟩
    · intro h
      have h0 := h 0 y rfl
      refine ⟨⟨h0.1, hs, by rw [h0.2.1]; omega⟩, h0.2.2, fun j x hx => ?_⟩
      have := h (j + 1) x (by rw [List.getElem?_cons_succ]; exact hx)
      exact ⟨this.1, by rw [this.2.1]; omega, this.2.2⟩
theorem so_iff (s : Int) (f : List S66) (r : Int) : sndB s f r = true ↔ SO s f r := by
  unfold sndB SO
  simp only [Bool.and_eq_true, decide_eq_true_eq, seq_iff]
  constructor
  · rintro ⟨h1, h2, h3, h4⟩
    have h5 := (fr_iff s f.length h2 h1 f 0 (by omega)).mp h4
    exact ⟨h1, h2, h3, fun j x hx => by have := h5 j x hx; exact ⟨this.1, by rw [this.2.1]; omega, this.2.2⟩⟩
  · rintro ⟨h1, h2, h3, h4⟩
    exact ⟨h1, h2, h3, (fr_iff s f.length h2 h1 f 0 (by omega)).mpr (fun j x hx => by have := h4 j x hx; exact ⟨this.1, by rw [this.2.1]; omega, this.2.2⟩)⟩
theorem ro_iff (e : Int) (h : List (List Int)) : recB e h = true ↔ RO e h := by
  unfold recB RO
  simp only [Bool.and_eq_true, decide_eq_true_eq, seq_iff, List.all_eq_true]
  exact ⟨fun h => ⟨h.2.1, h.2.2, h.1⟩, fun h => ⟨h.2.2, h.1, h.2.1⟩⟩
theorem lk_iff (s : Int) (f : List S66) (r e : Int) (h w : List (List Int)) (a : List Int) : lnkB s f r e h w a = true ↔ LK s f r e h w a := by
  unfold lnkB LK
  simp only [Bool.and_eq_true, decide_eq_true_eq, so_iff, ro_iff, List.all_eq_true, ackB, Bool.or_eq_true, seq_iff]
  exact ⟨fun ⟨a, b, c, d, e, f⟩ => ⟨a, b, c, e, d, f⟩, fun ⟨a, b, c, d, e, f⟩ => ⟨a, b, c, e, d, f⟩⟩
theorem bytes_small {x : List Int} (h : bytesB x = true) : x.length ≤ 40 := ((bytesB_iff x).mp h).2
theorem so_small {s : Int} {f : List S66} {r : Int} (h : SO s f r) : ∀ x ∈ f, SmallG x := by
  intro x hx
  obtain ⟨j, hj⟩ := List.getElem?_of_mem hx
  have := bytes_small (h.2.2.2 j x hj).2.2
  unfold SmallG; omega
theorem rows_small {l : List (List Int)} (h : ∀ x ∈ l, bytesB x = true) : ∀ x ∈ l, SmallE x := by
  intro x hx
  have := bytes_small (h x hx)
  unfold SmallE; omega
/-! ### Copies -/
theorem copyFrame_ev (s : Int) (l : List Int) (hl : l.length ≤ 1048576) : impl_copyFrame.f s l = some (s, l) := by
  unfold impl_copyFrame.f
  rw [clone_ev l (by omega)]
  rfl
theorem copyS_l0 (s r : Int) (f : List S66) (hl : f.length ≤ 1048576) (hs : ∀ x ∈ f, SmallG x) (d : Nat) : ∀ i : Nat, i + d = f.length → ∀ k, d < k → impl_copySender.l0 k f (f.length : Int) (i : Int) s (f.take i) r = some (s, f, r) := by
  induction d with
  | zero =>
    intro i hi k hk
    obtain ⟨k, rfl⟩ : ∃ m, k = m + 1 := ⟨k - 1, by omega⟩
    simp only [impl_copySender.l0]
    rw [if_neg (by omega), take_all f i (by omega)]
  | succ d ih =>
    intro i hi k hk
    obtain ⟨k, rfl⟩ : ∃ m, k = m + 1 := ⟨k - 1, by omega⟩
    have hlt : i < f.length := by omega
    have hsm := hs _ (List.getElem_mem hlt)
    unfold SmallG at hsm
    simp only [impl_copySender.l0]
    rw [if_pos (by omega), if_pos (by omega), if_pos (by omega), rdG_lt f i hlt, copyFrame_ev _ _ hsm]
    simp only [Option.bind_some]
    rw [if_pos (by rw [List.length_take]; omega), wrap_succ i (by omega), show f.take i ++ [(⟨f[i].f0, f[i].f1⟩ : S66)] = f.take (i + 1) from (take_snoc f i hlt).symm]
    exact ih (i + 1) (by omega) k (by omega)
theorem copyS_ev (s : Int) (f : List S66) (r : Int) (hl : f.length ≤ 1048576) (hs : ∀ x ∈ f, SmallG x) (k : Nat) (hk : 1048576 < k) : impl_copySender.f k s f r = some (s, f, r) := copyS_l0 s r f hl hs f.length 0 (by omega) k (by omega)
theorem copyL_ev {s : Int} {f : List S66} {r e : Int} {h w : List (List Int)} {a : List Int} (H : LK s f r e h w a) (k : Nat) (hk : 3000000 < k) : impl_copyLink.f k s f r e h w a = some (s, f, r, e, h, w, a) := by
  obtain ⟨h1, h2, h3, h4, h5, _⟩ := H
  unfold impl_copyLink.f
  rw [copyS_ev s f r (by have := h1.2.1; omega) (so_small h1) k (by omega)]
  simp only [Option.bind_some]
  rw [iCopyR_ev e h (by have := h2.2.1; omega) (rows_small h2.2.2) k (by omega)]
  simp only [Option.bind_some]
  rw [copyLists_ev w (by omega) (rows_small h4) k (by omega)]
  simp only [Option.bind_some]
  rw [clone_ev a (by omega)]
  rfl
theorem so_ev {s : Int} {f : List S66} {r : Int} (H : SO s f r) (k : Nat) (hk : 3000000 < k) : impl_SenderOk.f k s f r = some true := by
  rw [iSenderOk_ev s f r (so_small H) k (by omega), (so_iff s f r).mpr H]
theorem lkOk_ev {s : Int} {f : List S66} {r e : Int} {h w : List (List Int)} {a : List Int} (H : LK s f r e h w a) (k : Nat) (hk : 3000000 < k) : impl_LinkOk.f k s f r e h w a = some true := by
  rw [iLinkOk_ev s f r e h w a (so_small H.1) (by have := H.2.1.2.1; omega) (by have := H.2.2.1; omega) k (by omega), (lk_iff s f r e h w a).mpr H]
/-! ### The sender's functions -/
theorem nx_ev (s : Int) (h : 0 ≤ s ∧ s ≤ 15) : nxE s = (s + 1) % 16 := by
  unfold nxE
  rw [if_pos ((seq_iff s).mpr h), wrap_id _ (by omega), Int.tmod_eq_emod_of_nonneg (by omega)]
theorem queue_ok {s : Int} {f : List S66} {r : Int} (H : SO s f r) (b : List Int) (k : Nat) (hk : 3000000 < k) : ∃ s' f' r' o, impl_QueueFrame.f k s f r b = some (s', f', r', o) ∧ SO s' f' r' := by
  unfold impl_QueueFrame.f
  rw [copyS_ev s f r (by have := H.2.1; omega) (so_small H) k (by omega)]
  simp only [Option.bind_some]
  rw [so_ev H k hk]
  simp only [Option.bind_some]
  rw [if_pos (by trivial), iAreBytes_ev b k (by omega)]
  simp only [Option.bind_some]
  by_cases hb : bytesB b = true
  case neg => rw [if_neg hb]; exact ⟨_, _, _, _, rfl, H⟩
  rw [if_pos hb]
  by_cases h7 : (f.length : Int) = 7
  · rw [if_pos h7]; exact ⟨_, _, _, _, rfl, H⟩
  rw [if_neg h7, clone_ev b (by have := bytes_small hb; omega)]
  simp only [Option.bind_some]
  obtain ⟨h1, h2, h3, h4⟩ := H
  rw [if_pos (by omega), iNext_ev, nx_ev s h1]
  simp only [Option.bind_some]
  refine ⟨_, _, _, _, rfl, by omega, by rw [List.length_append, List.length_singleton]; omega, by rw [List.length_append, List.length_singleton]; omega, fun j x hx => ?_⟩
  rw [List.length_append, List.length_singleton]
  rcases Nat.lt_or_ge j f.length with hj | hj
  · rw [List.getElem?_append_left hj] at hx
    have := h4 j x hx
    exact ⟨this.1, by have h5 := this.2.1; have h6 := this.1; omega, this.2.2⟩
  · rw [List.getElem?_append_right hj] at hx
    have hj0 : j = f.length := by
      rcases Nat.eq_zero_or_pos (j - f.length) with h | h
      · omega
      · rw [List.getElem?_eq_none (by simp; omega)] at hx; cases hx
    subst hj0
    rw [Nat.sub_self] at hx
    cases hx
    exact ⟨h1, by show ((s + 1) % 16 - s + 16) % 16 = _; omega, hb⟩
theorem replay_ok {s : Int} {f : List S66} {r : Int} (H : SO s f r) (k : Nat) (hk : 3000000 < k) : impl_Replay.f k s f r = some (s, f, 0) ∧ SO s f 0 := by
  unfold impl_Replay.f
  rw [copyS_ev s f r (by have := H.2.1; omega) (so_small H) k (by omega)]
  simp only [Option.bind_some]
  rw [so_ev H k hk]
  simp only [Option.bind_some]
  exact ⟨by rw [if_pos (by trivial)], H.1, H.2.1, by omega, H.2.2.2⟩
theorem ready_ok {s : Int} {f : List S66} {r : Int} (H : SO s f r) (k : Nat) (hk : 3000000 < k) : (∃ s' f' r' q b, impl_TakeReady.f k s f r = some (s', f', r', q, b, false)) ∨ (∃ q b, impl_TakeReady.f k s f r = some (s, f, r + 1, q, b, true) ∧ SO s f (r + 1) ∧ (0 ≤ q ∧ q ≤ 15) ∧ bytesB b = true) := by
  unfold impl_TakeReady.f
  rw [copyS_ev s f r (by have := H.2.1; omega) (so_small H) k (by omega)]
  simp only [Option.bind_some]
  rw [so_ev H k hk]
  simp only [Option.bind_some]
  rw [if_pos (by trivial)]
  by_cases hr : r = (f.length : Int)
  · rw [if_pos hr]; exact .inl ⟨_, _, _, _, _, rfl⟩
  obtain ⟨h1, h2, h3, h4⟩ := H
  rw [if_neg hr, if_pos h3.1, if_pos (by omega)]
  obtain ⟨m, rfl⟩ : ∃ m : Nat, r = (m : Int) := ⟨r.toNat, by omega⟩
  have hm : m < f.length := by omega
  have hx := h4 m f[m] (List.getElem?_eq_getElem hm)
  rw [rdG_lt f m hm, copyFrame_ev _ _ (by have := bytes_small hx.2.2; omega)]
  simp only [Option.bind_some]
  rw [wrap_id _ (by omega)]
  exact .inr ⟨_, _, rfl, ⟨h1, h2, by omega, h4⟩, hx.1, hx.2.2⟩
theorem ix_l0 (f : List S66) (q : Int) (hl : f.length ≤ 7) (d : Nat) : ∀ i : Nat, i + d = f.length → ∀ k, d < k → ∃ z, impl_TakeAck_ix.l0 k f q (f.length : Int) (i : Int) = some z ∧ (z < 0 ∨ (0 ≤ z ∧ z < (f.length : Int))) := by
  induction d with
  | zero =>
    intro i hi k hk
    obtain ⟨k, rfl⟩ : ∃ m, k = m + 1 := ⟨k - 1, by omega⟩
    simp only [impl_TakeAck_ix.l0]
    rw [if_neg (by omega)]
    exact ⟨_, rfl, .inl (by omega)⟩
  | succ d ih =>
    intro i hi k hk
    obtain ⟨k, rfl⟩ : ∃ m, k = m + 1 := ⟨k - 1, by omega⟩
    simp only [impl_TakeAck_ix.l0]
    rw [if_pos (by omega), if_pos (by omega), if_pos (by omega)]
    by_cases hq : (rd_T66 f (i : Int)).f0 = q
    · rw [if_pos hq]; exact ⟨_, rfl, .inr (by omega)⟩
    · rw [if_neg hq, wrap_succ i (by omega)]
      exact ih (i + 1) (by omega) k (by omega)
theorem ack_ok {s : Int} {f : List S66} {r : Int} (H : SO s f r) (q : Int) (k : Nat) (hk : 3000000 < k) : ∃ s' f' r' o, impl_TakeAck.f k s f r q = some (s', f', r', o) ∧ SO s' f' r' := by
  unfold impl_TakeAck.f
  rw [copyS_ev s f r (by have := H.2.1; omega) (so_small H) k (by omega)]
  simp only [Option.bind_some]
  obtain ⟨z, e1, hz⟩ := ix_l0 f q H.2.1 f.length 0 (by omega) k (by have := H.2.1; omega)
  rw [show impl_TakeAck_ix.f k f q = some z from e1]
  simp only [Option.bind_some]
  rw [so_ev H k hk]
  simp only [Option.bind_some]
  rw [if_pos (by trivial)]
  obtain ⟨h1, h2, h3, h4⟩ := H
  rcases hz with hz | hz
  · rw [if_pos hz]; exact ⟨_, _, _, _, rfl, h1, h2, h3, h4⟩
  · rw [if_neg (by omega), if_pos hz.1, if_pos hz.2, if_pos (by omega)]
    obtain ⟨m, rfl⟩ : ∃ m : Nat, z = (m : Int) := ⟨z.toNat, by omega⟩
    rw [wrap_id (r - (m : Int)) (by omega), wrap_id (r - (m : Int) - 1) (by omega), Int.toNat_natCast]
    refine ⟨_, _, _, _, rfl, h1, by rw [List.length_drop]; omega, by rw [List.length_drop]; unfold mx; split <;> omega, fun j x hx => ?_⟩
    rw [List.getElem?_drop] at hx
    have := h4 _ x hx
    rw [List.length_drop]
    exact ⟨this.1, by rw [this.2.1]; omega, this.2.2⟩
/-! ### The wire -/
theorem bytes_app {x y : List Int} (h1 : x.all byteB = true) (h2 : y.all byteB = true) (h3 : x.length + y.length ≤ 40) : bytesB (x ++ y) = true := by
  rw [bytesB_iff, List.all_append, h1, h2, List.length_append]
  exact ⟨rfl, h3⟩
theorem byte_iff (x : Int) : byteB x = true ↔ 0 ≤ x ∧ x ≤ 255 := by unfold byteB; exact decide_eq_true_iff
theorem wire_ok (q : Int) (b : List Int) (hq : 0 ≤ q ∧ q ≤ 15) (hb : bytesB b = true) (k : Nat) (hk : 3000000 < k) : ∃ y, impl_WireFrame.f k q b = some y ∧ bytesB y = true := by
  have hl := bytes_small hb
  unfold impl_WireFrame.f
  rw [iIsSeq_eq, (seq_iff q).mpr hq]
  simp only [Option.bind_some]
  rw [if_pos (by trivial), if_pos (by simp; omega), iAddCheck_ev ([q] ++ b) (by simp; omega) k (by omega)]
  simp only [Option.bind_some]
  refine ⟨_, rfl, ?_⟩
  by_cases h : bytesB ([q] ++ b) = true ∧ ([q] ++ b).length ≤ 38
  · rw [if_pos h]
    have h1 := (bytesB_iff _).mp h.1
    have h2 := ck_range ([q] ++ b) 65535 (by omega) h1.1
    unfold addCk
    exact bytes_app h1.1 (by simp only [List.all_cons, List.all_nil, Bool.and_true, Bool.and_eq_true, byte_iff]; omega) (by simp only [List.length_cons, List.length_nil]; omega)
  · rw [if_neg h]; rfl
theorem tw_bytes (l : List Int) : bytesB (twR l).2.1 = true := by
  unfold twR
  by_cases h : takeOk l
  · rw [if_pos h]
    have h1 : bytesB (l.take (l.length - 2)) = true := bytesB_take l _ h.2.1
    cases e1 : l.take (l.length - 2) with
    | nil => rfl
    | cons a r =>
      rw [e1, bytesB_iff, List.all_cons, Bool.and_eq_true, List.length_cons] at h1
      show bytesB (if seqB a = true then (a, r, true) else (0, [], false)).2.1 = true
      by_cases hs : seqB a = true
      · rw [if_pos hs]; exact (bytesB_iff r).mpr ⟨h1.1.2, by omega⟩
      · rw [if_neg hs]; rfl
  · rw [if_neg h]; rfl
theorem take_ok {e : Int} {h : List (List Int)} (H : RO e h) (w : List Int) (hw : w.length ≤ 1048576) (k : Nat) (hk : 3000000 < k) : ∃ e' h' v, impl_TakeFrame.f k e h w = some (e', h', v) ∧ RO e' h' := by
  rw [iTake_ev e h w (by have := H.2.1; omega) hw (rows_small H.2.2) k (by omega)]
  unfold tfR
  by_cases h0 : judR e h w = 0
  · rw [if_pos h0]
    by_cases h1 : (h.length : Int) = 1000
    · rw [if_pos h1]; exact ⟨_, _, _, rfl, H⟩
    · rw [if_neg h1]
      refine ⟨_, _, _, rfl, by rw [nx_ev e H.1]; omega, by rw [List.length_append, List.length_singleton]; have := H.2.1; omega, fun x hx => ?_⟩
      rw [List.mem_append, List.mem_singleton] at hx
      rcases hx with hx | rfl
      · exact H.2.2 x hx
      · exact tw_bytes w
  · rw [if_neg h0]; exact ⟨_, _, _, rfl, H⟩
theorem ackOf_ok {e : Int} {h : List (List Int)} (H : RO e h) (k : Nat) (hk : 3000000 < k) : ∃ n, impl_AckOf.f k e h = some n ∧ 0 ≤ n ∧ n ≤ 15 := by
  unfold impl_AckOf.f
  rw [iReceiverOk_ev e h (by have := H.2.1; omega) k (by omega), (ro_iff e h).mpr H]
  simp only [Option.bind_some]
  have := H.1
  rw [if_pos (by trivial), wrap_id (e + 16) (by omega), wrap_id (e + 16 - 1) (by omega), Int.tmod_eq_emod_of_nonneg (by omega)]
  exact ⟨_, rfl, by omega, by omega⟩
/-! ### The link's functions -/
theorem erase_mem {α : Type} {l : List α} {i : Nat} {x : α} (h : x ∈ l.eraseIdx i) : x ∈ l := List.mem_of_mem_eraseIdx h
theorem send_ok {s : Int} {f : List S66} {r e : Int} {h w : List (List Int)} {a : List Int} (H : LK s f r e h w a) (k : Nat) (hk : 3000000 < k) : ∃ b s' f' r' e' h' w' a', impl_Link_send.f k s f r e h w a = some (b, s', f', r', e', h', w', a') ∧ LK s' f' r' e' h' w' a' ∧ (b = true → w'.length = w.length + 1) := by
  obtain ⟨h1, h2, h3, h4, h5, h6⟩ := H
  unfold impl_Link_send.f
  rcases ready_ok h1 k hk with ⟨s', f', r', q, b, e1⟩ | ⟨q, b, e1, g1, g2, g3⟩
  · rw [e1]
    exact ⟨false, s, f, r, e, h, w, a, rfl, ⟨h1, h2, h3, h4, h5, h6⟩, by simp⟩
  · rw [e1]
    simp only [Option.bind_some]
    rw [if_pos (by trivial)]
    by_cases h8 : (w.length : Int) = 8
    · rw [if_pos h8]
      exact ⟨false, s, f, r, e, h, w, a, rfl, ⟨h1, h2, h3, h4, h5, h6⟩, by simp⟩
    · obtain ⟨y, e2, hy⟩ := wire_ok q b g2 g3 k hk
      rw [if_neg h8, e2]
      simp only [Option.bind_some]
      rw [if_pos (by omega)]
      refine ⟨_, _, _, _, _, _, _, _, rfl, ⟨g1, h2, by rw [List.length_append, List.length_singleton]; omega, fun x hx => ?_, h5, h6⟩, fun _ => by rw [List.length_append, List.length_singleton]⟩
      rw [List.mem_append, List.mem_singleton] at hx
      rcases hx with hx | rfl
      · exact h4 x hx
      · exact hy
theorem rdl_mem {w : List (List Int)} {j : Int} (h0 : 0 ≤ j) (h1 : j < (w.length : Int)) : rdl_ w j ∈ w := by
  obtain ⟨m, rfl⟩ : ∃ m : Nat, j = (m : Int) := ⟨j.toNat, by omega⟩
  have hm : m < w.length := by omega
  unfold rdl_
  rw [Int.toNat_natCast, List.getD_eq_getElem?_getD, List.getElem?_eq_getElem hm]
  exact List.getElem_mem hm
theorem deliver_ok {s : Int} {f : List S66} {r e : Int} {h w : List (List Int)} {a : List Int} (H : LK s f r e h w a) (k : Nat) (hk : 3000000 < k) : ∃ b s' f' r' e' h' w' a', impl_Link_deliver.f k s f r e h w a = some (b, s', f', r', e', h', w', a') ∧ LK s' f' r' e' h' w' a' ∧ (b = true → w'.length + 1 = w.length) := by
  obtain ⟨h1, h2, h3, h4, h5, h6⟩ := H
  unfold impl_Link_deliver.f
  by_cases hw : (w.length : Int) = 0
  · rw [if_pos hw]
    exact ⟨false, s, f, r, e, h, w, a, rfl, ⟨h1, h2, h3, h4, h5, h6⟩, by simp⟩
  have hw0 : (0 : Int) < (w.length : Int) := by omega
  have hb := h4 _ (rdl_mem (Int.le_refl 0) hw0)
  obtain ⟨e', h', v, e1, g1⟩ := take_ok h2 (rdl_ w 0) (by have := bytes_small hb; omega) k hk
  rw [if_neg hw, if_pos (Int.le_refl 0), if_pos hw0, e1]
  simp only [Option.bind_some]
  rw [if_pos (Int.le_refl 0), if_pos hw0]
  have hl : (w.eraseIdx (Int.toNat 0)).length + 1 = w.length := by rw [List.length_eraseIdx]; split <;> omega
  have hm : ∀ x ∈ w.eraseIdx (Int.toNat 0), bytesB x = true := fun x hx => h4 x (erase_mem hx)
  have fin : ∀ (a' : List Int), a'.length ≤ 8 → (∀ v ∈ a', (0 ≤ v ∧ v ≤ 15) ∨ (100 ≤ v ∧ v ≤ 115)) → ∃ b s2 f2 r2 e2 h2 w2 a2, (some (true, s, f, r, e', h', w.eraseIdx (Int.toNat 0), a') : Option (Bool × Int × List S66 × Int × Int × List (List Int) × List (List Int) × List Int)) = some (b, s2, f2, r2, e2, h2, w2, a2) ∧ LK s2 f2 r2 e2 h2 w2 a2 ∧ (b = true → w2.length + 1 = w.length) :=
    fun a' p1 p2 => ⟨_, _, _, _, _, _, _, _, rfl, ⟨h1, g1, by omega, hm, p1, p2⟩, fun _ => hl⟩
  by_cases ha : (a.length : Int) < 8
  · obtain ⟨n, e2, n0, n1⟩ := ackOf_ok g1 k hk
    have hs : ∀ v, (0 ≤ v ∧ v ≤ 15) ∨ (100 ≤ v ∧ v ≤ 115) → ∀ u ∈ a ++ [v], (0 ≤ u ∧ u ≤ 15) ∨ (100 ≤ u ∧ u ≤ 115) := by
      intro v hv u hu
      rw [List.mem_append, List.mem_singleton] at hu
      rcases hu with hu | rfl
      · exact h6 u hu
      · exact hv
    have hlen : ∀ v : Int, (a ++ [v]).length ≤ 8 := fun v => by rw [List.length_append, List.length_singleton]; omega
    rw [if_pos ha, e2]
    simp only [Option.bind_some]
    rw [wrap_id (n + 100) (by omega)]
    by_cases v2 : v = 2
    · rw [if_pos v2, if_pos (by omega)]; exact fin _ (hlen _) (hs _ (.inr (by omega)))
    · rw [if_neg v2]
      by_cases v3 : v = 3
      · rw [if_pos v3, if_pos (by omega)]; exact fin _ (hlen _) (hs _ (.inr (by omega)))
      · rw [if_neg v3, if_pos (by omega)]; exact fin _ (hlen _) (hs _ (.inl (by omega)))
  · rw [if_neg ha]; exact fin a h5 h6
theorem answer_ok {s : Int} {f : List S66} {r e : Int} {h w : List (List Int)} {a : List Int} (H : LK s f r e h w a) (k : Nat) (hk : 3000000 < k) : ∃ b s' f' r' e' h' w' a', impl_Link_answer.f k s f r e h w a = some (b, s', f', r', e', h', w', a') ∧ LK s' f' r' e' h' w' a' ∧ (b = true → a'.length + 1 = a.length) := by
  obtain ⟨h1, h2, h3, h4, h5, h6⟩ := H
  unfold impl_Link_answer.f
  by_cases ha : (a.length : Int) = 0
  · rw [if_pos ha]
    exact ⟨false, s, f, r, e, h, w, a, rfl, ⟨h1, h2, h3, h4, h5, h6⟩, by simp⟩
  have ha0 : (0 : Int) < (a.length : Int) := by omega
  obtain ⟨s', f', r', o, e1, g1⟩ := ack_ok h1 (Int.tmod (rd a 0) 100) k hk
  rw [if_neg ha, if_pos (Int.le_refl 0), if_pos ha0, if_pos (Int.le_refl 0), if_pos ha0, e1]
  simp only [Option.bind_some]
  have hl : (a.eraseIdx (Int.toNat 0)).length + 1 = a.length := by rw [List.length_eraseIdx]; split <;> omega
  have hm : ∀ v ∈ a.eraseIdx (Int.toNat 0), (0 ≤ v ∧ v ≤ 15) ∨ (100 ≤ v ∧ v ≤ 115) := fun x hx => h6 x (erase_mem hx)
  by_cases hn : 100 ≤ rd a 0
  · obtain ⟨e2, g2⟩ := replay_ok g1 k hk
    rw [if_pos hn, e2]
    exact ⟨_, _, _, _, _, _, _, _, rfl, ⟨g2, h2, h3, h4, by omega, hm⟩, fun _ => hl⟩
  · rw [if_neg hn]
    exact ⟨_, _, _, _, _, _, _, _, rfl, ⟨g1, h2, h3, h4, by omega, hm⟩, fun _ => hl⟩
theorem flip_byte (x : Int) (m : Nat) (hx : 0 ≤ x ∧ x ≤ 255) (hm : m ≤ 7) : 0 ≤ Go.bits .xor .i64 x (shl .i64 1 (m : Int)) ∧ Go.bits .xor .i64 x (shl .i64 1 (m : Int)) ≤ 255 := by
  obtain ⟨n, rfl⟩ : ∃ n : Nat, x = (n : Int) := ⟨x.toNat, by omega⟩
  have hs : ∀ m : Nat, m ≤ 7 → shl .i64 1 (m : Int) = ((2 ^ m : Nat) : Int) ∧ 2 ^ m < 256 := by decide
  obtain ⟨h1, h2⟩ := hs m hm
  rw [h1, i64_xor_natg n (2 ^ m) (by omega) (by omega)]
  have := Nat.xor_lt_two_pow (x := n) (y := 2 ^ m) (n := 8) (by omega) (by omega)
  omega
theorem flip_ok (b : List Int) (n : Int) (hb : bytesB b = true) (k : Nat) (hk : 3000000 < k) : ∃ y, impl_FlipBit.f k b n = some y ∧ bytesB y = true := by
  have hl := bytes_small hb
  unfold impl_FlipBit.f
  rw [clone_ev b (by omega)]
  simp only [Option.bind_some]
  rw [iAreBytes_ev b k (by omega), hb]
  simp only [Option.bind_some]
  rw [if_pos (by trivial), within_eq, wrap_id (8 * (b.length : Int)) (by omega), wrap_id (8 * (b.length : Int) - 1) (by omega)]
  simp only [Option.bind_some, decide_eq_true_eq]
  by_cases hn : 0 ≤ n ∧ n ≤ 8 * (b.length : Int) - 1
  case neg => rw [if_neg hn]; exact ⟨_, rfl, hb⟩
  have hd : Int.tdiv n 8 = n / 8 := Int.tdiv_eq_ediv_of_nonneg hn.1
  have hm : Int.tmod n 8 = n % 8 := Int.tmod_eq_emod_of_nonneg hn.1
  have hu : IntKind.u64.wrap (n % 8) = n % 8 := by
    have : n % 8 = 0 ∨ n % 8 = 1 ∨ n % 8 = 2 ∨ n % 8 = 3 ∨ n % 8 = 4 ∨ n % 8 = 5 ∨ n % 8 = 6 ∨ n % 8 = 7 := by omega
    rcases this with h | h | h | h | h | h | h | h <;> rw [h] <;> decide
  rw [if_pos hn, hd, hm, hu, wrap_id (n / 8) (by omega), if_pos (by omega), if_pos (by omega), if_pos (by omega)]
  refine ⟨_, rfl, ?_⟩
  have h1 := (bytesB_iff b).mp hb
  rw [bytesB_iff, List.length_set]
  refine ⟨?_, h1.2⟩
  rw [List.all_eq_true] at h1 ⊢
  intro x hx
  rcases List.mem_or_eq_of_mem_set hx with hx | rfl
  · exact h1.1 x hx
  · obtain ⟨m, e1⟩ : ∃ m : Nat, n % 8 = (m : Int) := ⟨(n % 8).toNat, by omega⟩
    obtain ⟨i, e2⟩ : ∃ i : Nat, n / 8 = (i : Int) := ⟨(n / 8).toNat, by omega⟩
    rw [e1, e2, byte_iff]
    have hi : i < b.length := by omega
    rw [rd_lt b i hi]
    exact flip_byte _ m ((byte_iff _).mp (h1.1 _ (List.getElem_mem hi))) (by omega)
theorem damage_ok {s : Int} {f : List S66} {r e : Int} {h w : List (List Int)} {a : List Int} (H : LK s f r e h w a) (n : Int) (k : Nat) (hk : 3000000 < k) : ∃ b s' f' r' e' h' w' a', impl_Link_damage.f k s f r e h w a n = some (b, s', f', r', e', h', w', a') ∧ LK s' f' r' e' h' w' a' := by
  have H0 := H
  obtain ⟨h1, h2, h3, h4, h5, h6⟩ := H
  unfold impl_Link_damage.f
  by_cases hn : n < 0
  · rw [if_pos hn]; exact ⟨_, _, _, _, _, _, _, _, rfl, H0⟩
  rw [if_neg hn, Int.tmod_eq_emod_of_nonneg (by omega)]
  by_cases hw : (w.length : Int) ≤ n % 8
  · rw [if_pos hw]; exact ⟨_, _, _, _, _, _, _, _, rfl, H0⟩
  rw [if_neg hw, if_pos (by omega), if_pos (by omega)]
  by_cases hq : wrap64 (8 * ((rdl_ w (n % 8)).length : Int)) ≤ wrap64 (Int.tdiv n 8)
  · rw [if_pos hq]; exact ⟨_, _, _, _, _, _, _, _, rfl, H0⟩
  obtain ⟨y, e1, hy⟩ := flip_ok (rdl_ w (n % 8)) (wrap64 (Int.tdiv n 8)) (h4 _ (rdl_mem (by omega) (by omega))) k hk
  rw [if_neg hq, e1]
  refine ⟨_, _, _, _, _, _, _, _, rfl, h1, h2, by rw [List.length_set]; exact h3, fun x hx => ?_, h5, h6⟩
  rcases List.mem_or_eq_of_mem_set hx with hx | rfl
  · exact h4 x hx
  · exact hy
theorem step_ok {s : Int} {f : List S66} {r e : Int} {h w : List (List Int)} {a : List Int} (H : LK s f r e h w a) (c n : Int) (k : Nat) (hk : 3000000 < k) : ∃ b s' f' r' e' h' w' a', impl_Link_step.f k s f r e h w a c n = some (b, s', f', r', e', h', w', a') ∧ LK s' f' r' e' h' w' a' := by
  have H0 := H
  obtain ⟨h1, h2, h3, h4, h5, h6⟩ := H
  unfold impl_Link_step.f
  by_cases c7 : c = 7
  · rw [if_pos c7]
    unfold impl_isWord.f
    rw [within_eq]
    simp only [Option.bind_some, decide_eq_true_eq]
    by_cases hn : 0 ≤ n ∧ n ≤ 65535
    · obtain ⟨s', f', r', o, e1, g1⟩ := queue_ok h1 ([wrap64 (Int.tdiv n 256), Int.tmod n 256] : List Int) k hk
      rw [if_pos hn, e1]
      exact ⟨_, _, _, _, _, _, _, _, rfl, g1, h2, h3, h4, h5, h6⟩
    · rw [if_neg hn]; exact ⟨_, _, _, _, _, _, _, _, rfl, H0⟩
  rw [if_neg c7]
  by_cases c1 : c = 1
  · obtain ⟨b, s', f', r', e', h', w', a', e1, g1, _⟩ := send_ok H0 k hk
    rw [if_pos c1, e1]; exact ⟨_, _, _, _, _, _, _, _, rfl, g1⟩
  rw [if_neg c1]
  by_cases c2 : c = 2
  · obtain ⟨b, s', f', r', e', h', w', a', e1, g1, _⟩ := deliver_ok H0 k hk
    rw [if_pos c2, e1]; exact ⟨_, _, _, _, _, _, _, _, rfl, g1⟩
  rw [if_neg c2]
  by_cases c3 : c = 3
  · rw [if_pos c3, within_eq, wrap_id ((w.length : Int) - 1) (by omega)]
    simp only [Option.bind_some, decide_eq_true_eq]
    by_cases hn : 0 ≤ n ∧ n ≤ (w.length : Int) - 1
    · rw [if_pos hn, if_pos hn.1, if_pos (by omega)]
      exact ⟨_, _, _, _, _, _, _, _, rfl, h1, h2, by rw [List.length_eraseIdx]; split <;> omega, fun x hx => h4 x (erase_mem hx), h5, h6⟩
    · rw [if_neg hn]; exact ⟨_, _, _, _, _, _, _, _, rfl, H0⟩
  rw [if_neg c3]
  by_cases c4 : c = 4
  · obtain ⟨b, s', f', r', e', h', w', a', e1, g1⟩ := damage_ok H0 n k hk
    rw [if_pos c4, e1]; exact ⟨_, _, _, _, _, _, _, _, rfl, g1⟩
  rw [if_neg c4]
  by_cases c5 : c = 5
  · obtain ⟨b, s', f', r', e', h', w', a', e1, g1, _⟩ := answer_ok H0 k hk
    rw [if_pos c5, e1]; exact ⟨_, _, _, _, _, _, _, _, rfl, g1⟩
  rw [if_neg c5]
  by_cases c6 : c = 6
  · obtain ⟨e1, g1⟩ := replay_ok h1 k hk
    rw [if_pos c6, e1]; exact ⟨_, _, _, _, _, _, _, _, rfl, g1, h2, h3, h4, h5, h6⟩
  rw [if_neg c6]
  exact ⟨_, _, _, _, _, _, _, _, rfl, H0⟩
/-! ### Runs -/
theorem run_l8 (ys : List S44) (hy : ys.length ≤ 400) (d : Nat) : ∀ (i : Nat) (c : Int) (s : Int) (f : List S66) (r e : Int) (h w : List (List Int)) (a : List Int), i + d = ys.length → 0 ≤ c ∧ c ≤ (i : Int) → LK s f r e h w a → ∀ k, 3000001 + d < k →
    ∃ c' i' s' f' r' e' h' w' a', impl_RunLink.l8 k ys c (i : Int) s f r e h w a = some (c', i', s', f', r', e', h', w', a') ∧ LK s' f' r' e' h' w' a' ∧ 0 ≤ c' ∧ c' ≤ (ys.length : Int) := by
  induction d with
  | zero =>
    intro i c s f r e h w a hi hc H k hk
    obtain ⟨k, rfl⟩ : ∃ m, k = m + 1 := ⟨k - 1, by omega⟩
    simp only [impl_RunLink.l8]
    rw [if_neg (by omega)]
    exact ⟨_, _, _, _, _, _, _, _, _, rfl, H, by omega, by omega⟩
  | succ d ih =>
    intro i c s f r e h w a hi hc H k hk
    obtain ⟨k, rfl⟩ : ∃ m, k = m + 1 := ⟨k - 1, by omega⟩
    simp only [impl_RunLink.l8]
    obtain ⟨b, s', f', r', e', h', w', a', e1, g1⟩ := step_ok H (rd_T44 ys (i : Int)).f0 (rd_T44 ys (i : Int)).f1 k (by omega)
    rw [if_pos (by omega), if_pos (by omega), if_pos (by omega), e1]
    simp only [Option.bind_some]
    rw [wrap_succ i (by omega)]
    cases b with
    | true =>
      rw [if_pos (by trivial), wrap_id (c + 1) (by omega)]
      exact ih (i + 1) (c + 1) s' f' r' e' h' w' a' (by omega) (by omega) g1 k (by omega)
    | false =>
      rw [if_neg (by simp)]
      exact ih (i + 1) c s' f' r' e' h' w' a' (by omega) (by omega) g1 k (by omega)
theorem run_ok (ys : List S44) (hy : ys.length ≤ 9223372036854775807) {s : Int} {f : List S66} {r e : Int} {h w : List (List Int)} {a : List Int} (H : LK s f r e h w a) (k : Nat) (hk : 3000500 < k) : ∃ s' f' r' e' h' w' a' c, impl_RunLink.f k s f r e h w a ys = some (s', f', r', e', h', w', a', c) ∧ LK s' f' r' e' h' w' a' ∧ 0 ≤ c ∧ c ≤ (ys.length : Int) := by
  unfold impl_RunLink.f
  rw [copyL_ev H k (by omega)]
  simp only [Option.bind_some]
  rw [lkOk_ev H k (by omega)]
  simp only [Option.bind_some]
  have hm : mn (ys.length : Int) 400 = ((min ys.length 400 : Nat) : Int) := by unfold mn; split <;> omega
  rw [if_pos (by trivial), hm, if_pos (by omega), Int.toNat_natCast]
  have hl : (ys.take (min ys.length 400)).length = min ys.length 400 := by rw [List.length_take]; omega
  obtain ⟨c', i', s', f', r', e', h', w', a', e1, g1, g2, g3⟩ := run_l8 (ys.take (min ys.length 400)) (by omega) (min ys.length 400) 0 0 s f r e h w a (by omega) (by omega) H k (by omega)
  have e2 : impl_RunLink.l8 k (ys.take (min ys.length 400)) 0 0 s f r e h w a = _ := e1
  rw [e2]
  exact ⟨_, _, _, _, _, _, _, _, rfl, g1, g2, by omega⟩
theorem sends_ok (d : Nat) : ∀ (s : Int) (f : List S66) (r e : Int) (h w : List (List Int)) (a : List Int), LK s f r e h w a → 8 - w.length ≤ d → ∀ k, 3000001 + d < k → ∃ s' f' r' e' h' w' a', impl_DrainLink.l9 k s f r e h w a = some (s', f', r', e', h', w', a') ∧ LK s' f' r' e' h' w' a' := by
  induction d with
  | zero =>
    intro s f r e h w a H hd k hk
    obtain ⟨k, rfl⟩ : ∃ m, k = m + 1 := ⟨k - 1, by omega⟩
    simp only [impl_DrainLink.l9]
    obtain ⟨b, s', f', r', e', h', w', a', e1, g1, g2⟩ := send_ok H k (by omega)
    rw [e1]
    simp only [Option.bind_some]
    cases b with
    | true => have := g2 rfl; have := g1.2.2.1; omega
    | false => rw [if_neg (by simp)]; exact ⟨_, _, _, _, _, _, _, rfl, g1⟩
  | succ d ih =>
    intro s f r e h w a H hd k hk
    obtain ⟨k, rfl⟩ : ∃ m, k = m + 1 := ⟨k - 1, by omega⟩
    simp only [impl_DrainLink.l9]
    obtain ⟨b, s', f', r', e', h', w', a', e1, g1, g2⟩ := send_ok H k (by omega)
    rw [e1]
    simp only [Option.bind_some]
    cases b with
    | true => rw [if_pos (by trivial)]; have := g2 rfl; exact ih _ _ _ _ _ _ _ g1 (by omega) k (by omega)
    | false => rw [if_neg (by simp)]; exact ⟨_, _, _, _, _, _, _, rfl, g1⟩
theorem delivers_ok (d : Nat) : ∀ (s : Int) (f : List S66) (r e : Int) (h w : List (List Int)) (a : List Int), LK s f r e h w a → w.length ≤ d → ∀ k, 3000001 + d < k → ∃ s' f' r' e' h' w' a', impl_DrainLink.l11 k s f r e h w a = some (s', f', r', e', h', w', a') ∧ LK s' f' r' e' h' w' a' := by
  induction d with
  | zero =>
    intro s f r e h w a H hd k hk
    obtain ⟨k, rfl⟩ : ∃ m, k = m + 1 := ⟨k - 1, by omega⟩
    simp only [impl_DrainLink.l11]
    obtain ⟨b, s', f', r', e', h', w', a', e1, g1, g2⟩ := deliver_ok H k (by omega)
    rw [e1]
    simp only [Option.bind_some]
    cases b with
    | true => have := g2 rfl; omega
    | false => rw [if_neg (by simp)]; exact ⟨_, _, _, _, _, _, _, rfl, g1⟩
  | succ d ih =>
    intro s f r e h w a H hd k hk
    obtain ⟨k, rfl⟩ : ∃ m, k = m + 1 := ⟨k - 1, by omega⟩
    simp only [impl_DrainLink.l11]
    obtain ⟨b, s', f', r', e', h', w', a', e1, g1, g2⟩ := deliver_ok H k (by omega)
    rw [e1]
    simp only [Option.bind_some]
    cases b with
    | true => rw [if_pos (by trivial)]; have := g2 rfl; exact ih _ _ _ _ _ _ _ g1 (by omega) k (by omega)
    | false => rw [if_neg (by simp)]; exact ⟨_, _, _, _, _, _, _, rfl, g1⟩
theorem answers_ok (d : Nat) : ∀ (s : Int) (f : List S66) (r e : Int) (h w : List (List Int)) (a : List Int), LK s f r e h w a → a.length ≤ d → ∀ k, 3000001 + d < k → ∃ s' f' r' e' h' w' a', impl_DrainLink.l13 k s f r e h w a = some (s', f', r', e', h', w', a') ∧ LK s' f' r' e' h' w' a' := by
  induction d with
  | zero =>
    intro s f r e h w a H hd k hk
    obtain ⟨k, rfl⟩ : ∃ m, k = m + 1 := ⟨k - 1, by omega⟩
    simp only [impl_DrainLink.l13]
    obtain ⟨b, s', f', r', e', h', w', a', e1, g1, g2⟩ := answer_ok H k (by omega)
    rw [e1]
    simp only [Option.bind_some]
    cases b with
    | true => have := g2 rfl; omega
    | false => rw [if_neg (by simp)]; exact ⟨_, _, _, _, _, _, _, rfl, g1⟩
  | succ d ih =>
    intro s f r e h w a H hd k hk
    obtain ⟨k, rfl⟩ : ∃ m, k = m + 1 := ⟨k - 1, by omega⟩
    simp only [impl_DrainLink.l13]
    obtain ⟨b, s', f', r', e', h', w', a', e1, g1, g2⟩ := answer_ok H k (by omega)
    rw [e1]
    simp only [Option.bind_some]
    cases b with
    | true => rw [if_pos (by trivial)]; have := g2 rfl; exact ih _ _ _ _ _ _ _ g1 (by omega) k (by omega)
    | false => rw [if_neg (by simp)]; exact ⟨_, _, _, _, _, _, _, rfl, g1⟩
/-- One round of a drain. -/
theorem round_ok {s : Int} {f : List S66} {r e : Int} {h w : List (List Int)} {a : List Int} (H : LK s f r e h w a) (k : Nat) (hk : 3000020 < k) : ∃ b s1 f1 r1 e1 h1 w1 a1 s2 f2 r2 e2 h2 w2 a2 s3 f3 r3 e3 h3 w3 a3 s4 f4 r4 e4 h4 w4 a4,
    impl_Link_step.f k s f r e h w a 6 0 = some (b, s1, f1, r1, e1, h1, w1, a1) ∧ impl_DrainLink.l9 k s1 f1 r1 e1 h1 w1 a1 = some (s2, f2, r2, e2, h2, w2, a2) ∧ impl_DrainLink.l11 k s2 f2 r2 e2 h2 w2 a2 = some (s3, f3, r3, e3, h3, w3, a3) ∧ impl_DrainLink.l13 k s3 f3 r3 e3 h3 w3 a3 = some (s4, f4, r4, e4, h4, w4, a4) ∧ LK s4 f4 r4 e4 h4 w4 a4 := by
  obtain ⟨b, s1, f1, r1, e1, h1, w1, a1, q1, g1⟩ := step_ok H 6 0 k (by omega)
  obtain ⟨s2, f2, r2, e2, h2, w2, a2, q2, g2⟩ := sends_ok 8 s1 f1 r1 e1 h1 w1 a1 g1 (by omega) k (by omega)
  obtain ⟨s3, f3, r3, e3, h3, w3, a3, q3, g3⟩ := delivers_ok 8 s2 f2 r2 e2 h2 w2 a2 g2 g2.2.2.1 k (by omega)
  obtain ⟨s4, f4, r4, e4, h4, w4, a4, q4, g4⟩ := answers_ok 8 s3 f3 r3 e3 h3 w3 a3 g3 g3.2.2.2.2.1 k (by omega)
  exact ⟨b, s1, f1, r1, e1, h1, w1, a1, s2, f2, r2, e2, h2, w2, a2, s3, f3, r3, e3, h3, w3, a3, s4, f4, r4, e4, h4, w4, a4, q1, q2, q3, q4, g4⟩
theorem drain_l7 (d : Nat) : ∀ (i : Nat) (s : Int) (f : List S66) (r e : Int) (h w : List (List Int)) (a : List Int), i + d = 200 → LK s f r e h w a → ∀ k, 3000021 + d < k → ∃ i' s' f' r' e' h' w' a', impl_DrainLink.l7 k (i : Int) s f r e h w a = some (i', s', f', r', e', h', w', a') ∧ LK s' f' r' e' h' w' a' := by
  induction d with
  | zero =>
    intro i s f r e h w a hi H k hk
    obtain ⟨k, rfl⟩ : ∃ m, k = m + 1 := ⟨k - 1, by omega⟩
    simp only [impl_DrainLink.l7]
    rw [if_neg (by omega)]
    exact ⟨_, _, _, _, _, _, _, _, rfl, H⟩
  | succ d ih =>
    intro i s f r e h w a hi H k hk
    obtain ⟨k, rfl⟩ : ∃ m, k = m + 1 := ⟨k - 1, by omega⟩
    simp only [impl_DrainLink.l7]
    rw [if_pos (by omega)]
    obtain ⟨b, s1, f1, r1, e1, h1, w1, a1, s2, f2, r2, e2, h2, w2, a2, s3, f3, r3, e3, h3, w3, a3, s4, f4, r4, e4, h4, w4, a4, q1, q2, q3, q4, g4⟩ := round_ok H k (by omega)
    have go := ih (i + 1) s4 f4 r4 e4 h4 w4 a4 (by omega) g4 k (by omega)
    rw [q1]
    simp only [Option.bind_some]
    rw [q2]
    simp only [Option.bind_some]
    rw [q3]
    simp only [Option.bind_some]
    rw [q4]
    simp only [Option.bind_some]
    rw [wrap_succ i (by omega)]
    by_cases c1 : (f.length : Int) = 0
    · rw [if_pos c1]
      by_cases c2 : (w.length : Int) = 0
      · rw [if_pos c2]
        by_cases c3 : (a.length : Int) = 0
        · rw [if_pos c3]; exact ⟨_, _, _, _, _, _, _, _, rfl, H⟩
        · rw [if_neg c3]; exact go
      · rw [if_neg c2]; exact go
    · rw [if_neg c1]; exact go
theorem drain_ok {s : Int} {f : List S66} {r e : Int} {h w : List (List Int)} {a : List Int} (H : LK s f r e h w a) (k : Nat) (hk : 3000500 < k) : ∃ s' f' r' e' h' w' a', impl_DrainLink.f k s f r e h w a = some (s', f', r', e', h', w', a') ∧ LK s' f' r' e' h' w' a' := by
  unfold impl_DrainLink.f
  rw [copyL_ev H k (by omega)]
  simp only [Option.bind_some]
  rw [lkOk_ev H k (by omega)]
  simp only [Option.bind_some]
  obtain ⟨i', s', f', r', e', h', w', a', e1, g1⟩ := drain_l7 200 0 s f r e h w a (by omega) H k (by omega)
  have e2 : impl_DrainLink.l7 k 0 s f r e h w a = _ := e1
  rw [if_pos (by trivial), e2]
  exact ⟨_, _, _, _, _, _, _, rfl, g1⟩
/-! ### What is drawn -/
/-- A cursor that has read no more than there is. -/
def CurOk (l : List Int) (i : Int) : Prop := 0 ≤ i ∧ i ≤ l.length ∧ (l.length : Int) ≤ 140737488351232
theorem byte_ok (l : List Int) (i h : Int) (hc : CurOk l i) : ∃ x i' h', spec_l01Byte.f l i h = some (x, i', h') ∧ 0 ≤ x ∧ x ≤ 255 ∧ CurOk l i' := by
  obtain ⟨h0, h1, h2⟩ := hc
  unfold spec_l01Byte.f
  by_cases hi : i < (l.length : Int)
  · rw [if_pos hi, if_pos h0]
    exact ⟨_, _, _, rfl, (and_mask _ 255 (by decide)).1, (and_mask _ 255 (by decide)).2, by rw [wrap_id _ (by omega)]; exact ⟨by omega, by omega, h2⟩⟩
  · rw [if_neg hi]
    exact ⟨_, _, _, rfl, (and_mask _ 255 (by decide)).1, (and_mask _ 255 (by decide)).2, ⟨h0, h1, h2⟩⟩
theorem below_ok (l : List Int) (i h n : Int) (hc : CurOk l i) (hn : 0 < n) : ∃ x i' h', spec_l01Below.f l i h n = some (x, i', h') ∧ 0 ≤ x ∧ x < n ∧ CurOk l i' := by
  unfold spec_l01Below.f
  rw [if_neg (by omega)]
  by_cases hb : n ≤ 256
  · rw [if_pos hb]
    obtain ⟨x, i1, h1, e, hx0, hx1, hc1⟩ := byte_ok l i h hc
    rw [e]
    simp only [Option.bind_some]
    rw [if_neg (by omega)]
    exact ⟨_, _, _, rfl, (tmod_range x n hx0 hn).1, (tmod_range x n hx0 hn).2, hc1⟩
  · rw [if_neg hb]
    obtain ⟨x, i1, h1, e1, hx0, hx1, hc1⟩ := byte_ok l i h hc
    obtain ⟨y, i2, h2, e2, hy0, hy1, hc2⟩ := byte_ok l i1 h1 hc1
    obtain ⟨z, i3, h3, e3, hz0, hz1, hc3⟩ := byte_ok l i2 h2 hc2
    obtain ⟨w, i4, h4, e4, hw0, hw1, hc4⟩ := byte_ok l i3 h3 hc3
    rw [e1]
    simp only [Option.bind_some]
    rw [e2]
    simp only [Option.bind_some]
    rw [e3]
    simp only [Option.bind_some]
    rw [e4]
    simp only [Option.bind_some]
    rw [if_neg (by omega)]
    have hv : 0 ≤ wrap64 ((wrap64 ((wrap64 ((wrap64 (x * 16777216)) + (wrap64 (y * 65536)))) + (wrap64 (z * 256)))) + w) := by
      rw [wrap_id (x * 16777216) (by omega), wrap_id (y * 65536) (by omega), wrap_id (z * 256) (by omega), wrap_id (x * 16777216 + y * 65536) (by omega), wrap_id (x * 16777216 + y * 65536 + z * 256) (by omega), wrap_id _ (by omega)]
      omega
    exact ⟨_, _, _, rfl, (tmod_range _ n hv hn).1, (tmod_range _ n hv hn).2, hc4⟩
theorem pick_ok (l : List Int) (i h : Int) (xs : List Int) (hc : CurOk l i) (hx : 0 < xs.length) : ∃ x i' h', spec_l01PickInt.f l i h xs = some (x, i', h') ∧ x ∈ xs ∧ CurOk l i' := by
  unfold spec_l01PickInt.f
  obtain ⟨q, i1, h1, e, h0, h2, hc1⟩ := below_ok l i h (xs.length : Int) hc (by omega)
  rw [e]
  simp only [Option.bind_some]
  rw [if_pos h0, if_pos h2]
  obtain ⟨m, rfl⟩ := Int.eq_ofNat_of_zero_le h0
  refine ⟨_, _, _, rfl, ?_, hc1⟩
  rw [rd_lt xs m (by omega)]
  exact List.getElem_mem _
theorem new_l0 (l : List Int) (d : Nat) : ∀ (i : Nat) (h : Int), i + d = 4000 → ∃ h', ∀ k, d < k → spec_l01New.l0 k l h (i : Int) = some (l, 0, h') := by
  induction d with
  | zero =>
    intro i h hi
    refine ⟨h, fun k hk => ?_⟩
    obtain ⟨k, rfl⟩ : ∃ m, k = m + 1 := ⟨k - 1, by omega⟩
    simp only [spec_l01New.l0]
    by_cases hlt : (i : Int) < (l.length : Int)
    · rw [if_pos hlt, if_neg (by omega)]
    · rw [if_neg hlt]
  | succ d ih =>
    intro i h hi
    by_cases hlt : (i : Int) < (l.length : Int)
    · obtain ⟨h', hh⟩ := ih (i + 1) (Go.bits .and .i64 (wrap64 ((wrap64 ((wrap64 (h * 131)) + (wrap64 (rd l i)))) + 7)) 1073741823) (by omega)
      refine ⟨h', fun k hk => ?_⟩
      obtain ⟨k, rfl⟩ : ∃ m, k = m + 1 := ⟨k - 1, by omega⟩
      simp only [spec_l01New.l0]
      rw [if_pos hlt, if_pos (show (i : Int) < 4000 by omega), if_pos (by omega), wrap_succ i (by omega)]
      exact hh k (by omega)
    · refine ⟨h, fun k hk => ?_⟩
      obtain ⟨k, rfl⟩ : ∃ m, k = m + 1 := ⟨k - 1, by omega⟩
      simp only [spec_l01New.l0]
      rw [if_neg hlt]
theorem new_ok (l : List Int) : ∃ h', ∀ k, 4000 < k → spec_l01New.f k l = some (l, 0, h') := by
  unfold spec_l01New.f
  exact new_l0 l 4000 0 _ (by omega)

theorem act_ok (l : List Int) (i h : Int) (hc : CurOk l i) : ∃ x y i' h', spec_l10Act.f l i h = some (x, y, i', h') ∧ CurOk l i' := by
  unfold spec_l10Act.f
  obtain ⟨x, i1, h1, e1, _, hc1⟩ := pick_ok l i h ([7, 7, 1, 1, 1, 2, 2, 2, 5, 5, 3, 4, 6] : List Int) hc (by decide)
  rw [e1]
  simp only [Option.bind_some]
  by_cases c7 : x = 7
  · obtain ⟨y, i2, h2, e2, _, _, hc2⟩ := below_ok l i1 h1 300 hc1 (by decide)
    rw [if_pos c7, e2]; exact ⟨_, _, _, _, rfl, hc2⟩
  rw [if_neg c7]
  by_cases c3 : x = 3
  · obtain ⟨y, i2, h2, e2, _, _, hc2⟩ := below_ok l i1 h1 3 hc1 (by decide)
    rw [if_pos c3, e2]; exact ⟨_, _, _, _, rfl, hc2⟩
  rw [if_neg c3]
  by_cases c4 : x = 4
  · obtain ⟨y, i2, h2, e2, _, _, hc2⟩ := below_ok l i1 h1 2 hc1 (by decide)
    obtain ⟨z, i3, h3, e3, _, _, hc3⟩ := below_ok l i2 h2 40 hc2 (by decide)
    rw [if_pos c4, e2]
    simp only [Option.bind_some]
    rw [e3]; exact ⟨_, _, _, _, rfl, hc3⟩
  rw [if_neg c4]
  exact ⟨_, _, _, _, rfl, hc1⟩
theorem acts_l0 (l : List Int) (n : Nat) (hn : n ≤ 100) (d : Nat) : ∀ (i : Nat) (xs : List S44) (p h : Int), i + d = n → xs.length = i → CurOk l p → ∃ ys p' h', (∀ k, d < k → spec_l10Acts.l0 k xs (n : Int) (i : Int) l p h = some (ys, p', h')) ∧ ys.length = n := by
  induction d with
  | zero =>
    intro i xs p h hi hx hc
    refine ⟨xs, p, h, fun k hk => ?_, by omega⟩
    obtain ⟨k, rfl⟩ : ∃ m, k = m + 1 := ⟨k - 1, by omega⟩
    simp only [spec_l10Acts.l0]
    rw [if_neg (by omega)]
  | succ d ih =>
    intro i xs p h hi hx hc
    obtain ⟨x, y, p1, h1, e1, hc1⟩ := act_ok l p h hc
    obtain ⟨ys, p', h', hh, hy⟩ := ih (i + 1) (xs ++ [(⟨x, y⟩ : S44)]) p1 h1 (by omega) (by rw [List.length_append, List.length_singleton]; omega) hc1
    refine ⟨ys, p', h', fun k hk => ?_, hy⟩
    obtain ⟨k, rfl⟩ : ∃ m, k = m + 1 := ⟨k - 1, by omega⟩
    simp only [spec_l10Acts.l0]
    rw [if_pos (by omega), e1]
    simp only [Option.bind_some]
    rw [if_pos (by omega), wrap_succ i (by omega)]
    exact hh k (by omega)
theorem draw_ok (l : List Int) (hl : (l.length : Int) ≤ 140737488351232) : ∃ ys, ys.length ≤ 100 ∧ ∀ k, 4000 < k → spec_DrawLinkActs.f k l = some ys := by
  obtain ⟨h0, e0⟩ := new_ok l
  obtain ⟨n, p, h, e1, n0, n1, hc⟩ := below_ok l 0 h0 60 ⟨Int.le_refl 0, by omega, hl⟩ (by decide)
  obtain ⟨m, rfl⟩ : ∃ m : Nat, n = (m : Int) := ⟨n.toNat, by omega⟩
  obtain ⟨ys, p', h', hh, hy⟩ := acts_l0 l m (by omega) m 0 [] p h (by omega) rfl hc
  refine ⟨ys, by omega, fun k hk => ?_⟩
  unfold spec_DrawLinkActs.f spec_l10Acts.f
  rw [e0 k hk]
  simp only [Option.bind_some]
  rw [e1]
  simp only [Option.bind_some]
  have e2 : spec_l10Acts.l0 k [] (m : Int) 0 l p h = _ := hh k (by omega)
  rw [e2]
  rfl
theorem new_lk : LK 0 [] 0 0 [] [] [] := by
  refine ⟨⟨by omega, by simp, by simp, fun j x hx => by simp at hx⟩, ⟨by omega, by simp, by simp⟩, by simp, by simp, by simp, by simp⟩
theorem FnLinkSteps : laws_FnLinkSteps.Pure := by
  intro l _
  refine ⟨3001000, ?_⟩
  unfold laws_FnLinkSteps.f laws_big.f
  simp only [Option.bind_some]
  by_cases hb : decide ((l.length : Int) > 1048576) = true
  · rw [if_pos hb]
  have hb2 : ¬ ((l.length : Int) > 1048576) := by simpa using hb
  obtain ⟨ys, hy, e1⟩ := draw_ok l (by omega)
  rw [if_neg hb, e1 _ (by omega)]
  simp only [Option.bind_some, impl_NewLink.f]
  obtain ⟨s, f, r, e, h, w, a, c, e2, g1, c0, c1⟩ := run_ok ys (by omega) new_lk 3001000 (by omega)
  rw [e2]
  simp only [Option.bind_some]
  rw [lkOk_ev g1 _ (by omega)]
  simp only [Option.bind_some]
  obtain ⟨s', f', r', e', h', w', a', e3, g2⟩ := drain_ok g1 3001000 (by omega)
  rw [if_pos (by trivial), if_pos c0, if_pos c1, e3]
  simp only [Option.bind_some]
  rw [lkOk_ev g2 _ (by omega)]
  rfl

end Go.Proofs.Ytmdehehgmnihpaa.Pure
