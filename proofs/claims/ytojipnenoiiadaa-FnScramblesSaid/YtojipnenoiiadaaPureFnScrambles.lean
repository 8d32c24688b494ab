/- The statement FnScrambles over lists of bytes: whatever is drawn, scrambling twice gives the bytes back, the generator passes all 255 states, and steps of the generator add up. Draws that are longer than the law's own bound are let by, as the law itself does. -/
import Derived.Test.YtojipnenoiiadaaPFnScramblesx
import Derived.Test.YtojipnenoiiadaaXLists
namespace Go.Proofs.Ytojipnenoiiadaa.Pure
set_option linter.unusedVariables false
set_option linter.unusedSimpArgs false
open Go.RowKit Go.Proofs.Ytojipnenoiiadaa.PFnScrambles Go.Proofs.YtojipnenoiiadaaW.PrintWords Go.Proofs.YtojipnenoiiadaaW.PrintLast Go.Proofs.YtojipnenoiiadaaW.PrintMore Go.Proofs.YtojipnenoiiadaaX

theorem within_eq (a l m : Int) : impl_within.f a l m = some (decide (l ≤ a ∧ a ≤ m)) := by
  unfold impl_within.f
  by_cases h : a ≥ l
  · have h' : l ≤ a := h
    rw [if_pos h]; simp [h']
  · have h' : ¬ l ≤ a := h
    rw [if_neg h]; simp [h']
theorem any_not {α : Type} (l : List α) (p : α → Bool) : (!l.any fun x => !p x) = l.all p := by
  induction l with
  | nil => rfl
  | cons a l ih => rw [List.any_cons, List.all_cons, Bool.not_or, ih, Bool.not_not]
def byteB (x : Int) : Bool := decide (0 ≤ x ∧ x ≤ 255)
def bytesB (l : List Int) : Bool := l.all byteB && decide (l.length ≤ 40)
theorem notByte_eq (x : Int) : impl_AreBytes_1.f x = some (!byteB x) := by
  unfold impl_AreBytes_1.f impl_isByte.f
  rw [within_eq]
  rfl
theorem cBytes_l0 (l : List (Int)) (hl : l.length ≤ 1048576) (d : Nat) : ∀ i : Nat, i + d = l.length → ∀ k, 0 + d < k → ∃ r, slices_IndexFunc_int_int__impl_AreBytes_1.l0 k l (l.length : Int) (i : Int) = some r ∧ decide (r ≥ 0) = (l.drop i).any (fun x => !byteB x) := by
  induction d with
  | zero =>
    intro i hi k hk
    obtain ⟨k, rfl⟩ : ∃ m, k = m + 1 := ⟨k - 1, by omega⟩
    refine ⟨-1, ?_, ?_⟩
    · simp only [slices_IndexFunc_int_int__impl_AreBytes_1.l0]
      rw [if_neg (show ¬ (i : Int) < (l.length : Int) by omega)]
    · rw [drop_all l i (by omega)]; rfl
  | succ d ih =>
    intro i hi k hk
    obtain ⟨k, rfl⟩ : ∃ m, k = m + 1 := ⟨k - 1, by omega⟩
    have hlt : i < l.length := by omega
    simp only [slices_IndexFunc_int_int__impl_AreBytes_1.l0]
    rw [if_pos (show (i : Int) < (l.length : Int) by omega), if_pos (show (0 : Int) ≤ (i : Int) by omega), if_pos (show (i : Int) < (l.length : Int) by omega), rd_lt l i hlt, notByte_eq l[i]]
    simp only [Option.bind_some]
    by_cases hp : (fun x => !byteB x) l[i] = true
    · rw [if_pos hp]
      exact ⟨_, rfl, by rw [any_drop_yes l i hlt _ hp, decide_eq_true (by omega)]⟩
    · rw [if_neg hp, wrap_succ i (by omega)]
      obtain ⟨r, h1, h2⟩ := ih (i + 1) (by omega) k (by omega)
      exact ⟨r, h1, by rw [h2, any_drop_no l i hlt _ hp]⟩
theorem cBytes_ev (l : List (Int)) (hl : l.length ≤ 1048576) (k : Nat) (hk : 0 + l.length < k) : slices_ContainsFunc_int_int__impl_AreBytes_1.f k l = some (l.any (fun x => !byteB x)) := by
  obtain ⟨r, h1, h2⟩ := cBytes_l0 l hl l.length 0 (by omega) k hk
  unfold slices_ContainsFunc_int_int__impl_AreBytes_1.f slices_IndexFunc_int_int__impl_AreBytes_1.f
  have c0 : ((0 : Nat) : Int) = 0 := rfl
  rw [c0] at h1
  rw [h1]
  simp only [Option.bind_some]
  rw [h2]; rfl
theorem iAreBytes_ev (l : List Int) (k : Nat) (hk : 40 < k) : impl_AreBytes.f k l = some (bytesB l) := by
  unfold impl_AreBytes.f bytesB
  by_cases h : (l.length : Int) ≤ 40
  · rw [if_pos h, cBytes_ev l (by omega) k (by omega)]
    simp only [Option.bind_some]
    rw [any_not, decide_eq_true (show l.length ≤ 40 by omega), Bool.and_true]
  · rw [if_neg h, decide_eq_false (show ¬ l.length ≤ 40 by omega), Bool.and_false]
/-- The next state of the scrambler, over small numbers. -/
def nx8 (n : Nat) : Nat := (2 * n) % 256 + (n / 8 + n / 16 + n / 32 + n / 128) % 2
theorem nx_table : ∀ n : Nat, n < 256 → 1 ≤ n → impl_NextState.f (n : Int) = some ((nx8 n : Nat) : Int) ∧ 1 ≤ nx8 n ∧ nx8 n < 256 := by decide +kernel
def per8 (n : Nat) : Nat → Nat → Nat → Option Nat
  | 0, _, _ => none
  | d + 1, c, x => if x = n then some c else per8 n d (c + 1) (nx8 x)
theorem per_table : ∀ n : Nat, n < 256 → 1 ≤ n → per8 n 300 1 (nx8 n) = some 255 := by decide +kernel
def st8 : Nat → Nat → Nat
  | 0, n => n
  | d + 1, n => st8 d (nx8 n)
theorem st_table : ∀ n : Nat, n < 256 → 1 ≤ n → st8 255 n = n := by decide +kernel
theorem st8_add (a : Nat) : ∀ b n : Nat, st8 (a + b) n = st8 b (st8 a n) := by
  induction a with
  | zero => intro b n; rw [Nat.zero_add]; rfl
  | succ a ih => intro b n; rw [Nat.succ_add]; exact ih b (nx8 n)
theorem st8_range (a : Nat) : ∀ n : Nat, n < 256 → 1 ≤ n → 1 ≤ st8 a n ∧ st8 a n < 256 := by
  induction a with
  | zero => intro n h h1; exact ⟨h1, h⟩
  | succ a ih => intro n h h1; obtain ⟨_, h2, h3⟩ := nx_table n h h1; exact ih _ h3 h2
theorem period_l0 (n : Nat) (d : Nat) : ∀ c x r : Nat, x < 256 → 1 ≤ x → c + d ≤ 1000 → per8 n d c x = some r → ∀ k, d < k → impl_PeriodOf.l0 k (n : Int) (c : Int) (x : Int) = some (r : Int) := by
  induction d with
  | zero => intro c x r _ _ _ h; cases h
  | succ d ih =>
    intro c x r hx h1 hc h k hk
    obtain ⟨k, rfl⟩ : ∃ m, k = m + 1 := ⟨k - 1, by omega⟩
    simp only [impl_PeriodOf.l0]
    simp only [per8] at h
    by_cases e : x = n
    · rw [if_pos e] at h
      rw [if_pos (show (x : Int) = (n : Int) by omega), Option.some.inj h]
    · rw [if_neg e] at h
      obtain ⟨h2, h3, h4⟩ := nx_table x hx h1
      rw [if_neg (show ¬ (x : Int) = (n : Int) by omega), if_pos (show (c : Int) ≤ 1000 by omega), h2, wrap_succ c (by omega)]
      simp only [Option.bind_some]
      exact ih (c + 1) (nx8 x) r h4 h3 (by omega) h k (by omega)
theorem isState_eq (n : Nat) (h : n < 256) (h1 : 1 ≤ n) : impl_isState.f (n : Int) = some true := by
  unfold impl_isState.f
  rw [within_eq, decide_eq_true (by omega)]
  rfl
theorem period_ev (n : Nat) (h : n < 256) (h1 : 1 ≤ n) (k : Nat) (hk : 300 < k) : impl_PeriodOf.f k (n : Int) = some 255 := by
  unfold impl_PeriodOf.f
  obtain ⟨h2, h3, h4⟩ := nx_table n h h1
  rw [isState_eq n h h1, h2]
  simp only [Option.bind_some, if_true]
  exact period_l0 n 300 1 (nx8 n) 255 h4 h3 (by omega) (per_table n h h1) k hk
theorem after_l0 (m : Nat) (hm : m ≤ 1000) (d : Nat) : ∀ i n : Nat, n < 256 → 1 ≤ n → i + d = m → ∀ k, d < k → impl_StateAfter.l0 k (n : Int) (m : Int) (i : Int) = some ((st8 d n : Nat) : Int) := by
  induction d with
  | zero =>
    intro i n h h1 hi k hk
    obtain ⟨k, rfl⟩ : ∃ m, k = m + 1 := ⟨k - 1, by omega⟩
    simp only [impl_StateAfter.l0]
    rw [if_neg (show ¬ (i : Int) < (m : Int) by omega)]
    rfl
  | succ d ih =>
    intro i n h h1 hi k hk
    obtain ⟨k, rfl⟩ : ∃ m, k = m + 1 := ⟨k - 1, by omega⟩
    obtain ⟨h2, h3, h4⟩ := nx_table n h h1
    simp only [impl_StateAfter.l0]
    rw [if_pos (show (i : Int) < (m : Int) by omega), h2, wrap_succ i (by omega)]
    simp only [Option.bind_some]
    exact ih (i + 1) (nx8 n) h4 h3 (by omega) k (by omega)
theorem after_ev (n : Nat) (h : n < 256) (h1 : 1 ≤ n) (m : Nat) (hm : m ≤ 1000) (k : Nat) (hk : 1010 < k) : impl_StateAfter.f k (n : Int) (m : Int) = some ((st8 m n : Nat) : Int) := by
  obtain ⟨k, rfl⟩ : ∃ m, k = m + 1 := ⟨k - 1, by omega⟩
  unfold impl_StateAfter.f
  rw [isState_eq n h h1, within_eq, decide_eq_true (by omega)]
  simp only [Option.bind_some, if_true, impl_StateAfter.j0]
  rw [if_neg (by decide)]
  exact after_l0 m hm m 0 n h h1 (by omega) k (by omega)
theorem ofInt_64 (a : Nat) (ha : a < 256) : (BitVec.ofInt 64 (a : Int)).toNat = a := by
  rw [BitVec.toNat_ofInt]; omega
theorem i64_xor_nat (a b : Nat) (ha : a < 256) (hb : b < 256) : Go.bits .xor .i64 (a : Int) (b : Int) = ((a ^^^ b : Nat) : Int) := by
  have hx : a ^^^ b < 2 ^ 8 := Nat.xor_lt_two_pow (by omega) (by omega)
  show IntKind.i64.wrap ((BitVec.ofInt 64 (a : Int) ^^^ BitVec.ofInt 64 (b : Int)).toNat : Int) = _
  rw [BitVec.toNat_xor, ofInt_64 a ha, ofInt_64 b hb, IntKind.wrap_i64]
  omega
theorem xor_back (x : Int) (hx : 0 ≤ x ∧ x ≤ 255) (s : Nat) (hs : s < 256) : (0 ≤ Go.bits .xor .i64 x (s : Int) ∧ Go.bits .xor .i64 x (s : Int) ≤ 255) ∧ Go.bits .xor .i64 (Go.bits .xor .i64 x (s : Int)) (s : Int) = x := by
  obtain ⟨n, rfl⟩ := Int.eq_ofNat_of_zero_le hx.1
  have h : n ^^^ s < 2 ^ 8 := Nat.xor_lt_two_pow (by omega) (by omega)
  rw [i64_xor_nat n s (by omega) hs, i64_xor_nat _ s (by omega) hs, Nat.xor_assoc, Nat.xor_self, Nat.xor_zero]
  exact ⟨by omega, rfl⟩
def scr : Nat → List Int → List Int
  | _, [] => []
  | s, x :: r => Go.bits .xor .i64 x (s : Int) :: scr (nx8 s) r
theorem scr_length (l : List Int) : ∀ s, (scr s l).length = l.length := by
  induction l with
  | nil => intro s; rfl
  | cons x r ih => intro s; rw [scr, List.length_cons, ih, List.length_cons]
theorem scr_back (l : List Int) : ∀ s, s < 256 → 1 ≤ s → (∀ x ∈ l, 0 ≤ x ∧ x ≤ 255) → (∀ x ∈ scr s l, 0 ≤ x ∧ x ≤ 255) ∧ scr s (scr s l) = l := by
  induction l with
  | nil => intro s _ _ _; exact ⟨fun x hx => (by cases hx), rfl⟩
  | cons x r ih =>
    intro s hs h1 hb
    obtain ⟨_, h2, h3⟩ := nx_table s hs h1
    obtain ⟨g1, g2⟩ := ih (nx8 s) h3 h2 (fun y hy => hb y (List.mem_cons_of_mem _ hy))
    obtain ⟨b1, b2⟩ := xor_back x (hb x List.mem_cons_self) s hs
    refine ⟨fun y hy => ?_, ?_⟩
    · rw [scr] at hy
      rcases List.mem_cons.1 hy with rfl | hy
      · exact b1
      · exact g1 y hy
    · rw [scr, scr, b2, g2]
theorem scr_l0 (l : List Int) (hl : l.length ≤ 40) (d : Nat) : ∀ (out : List Int) (i s : Nat), s < 256 → 1 ≤ s → out.length = i → i + d = l.length → ∀ k, d < k → impl_ScrambleBytes.l0 k (s : Int) out l (l.length : Int) (i : Int) = some (out ++ scr s (l.drop i)) := by
  induction d with
  | zero =>
    intro out i s hs h1 ho hi k hk
    obtain ⟨k, rfl⟩ : ∃ m, k = m + 1 := ⟨k - 1, by omega⟩
    simp only [impl_ScrambleBytes.l0]
    rw [if_neg (show ¬ (i : Int) < (l.length : Int) by omega), drop_all l i (by omega), scr, List.append_nil]
  | succ d ih =>
    intro out i s hs h1 ho hi k hk
    obtain ⟨k, rfl⟩ : ∃ m, k = m + 1 := ⟨k - 1, by omega⟩
    have hlt : i < l.length := by omega
    obtain ⟨h2, h3, h4⟩ := nx_table s hs h1
    simp only [impl_ScrambleBytes.l0]
    rw [if_pos (show (i : Int) < (l.length : Int) by omega), if_pos (show (0 : Int) ≤ (i : Int) by omega), if_pos (show (i : Int) < (l.length : Int) by omega), if_pos (show out.length < 17592186044416 by omega), h2, rd_lt l i hlt, wrap_succ i (by omega)]
    simp only [Option.bind_some]
    rw [ih _ (i + 1) (nx8 s) h4 h3 (by simp [ho]) (by omega) k (by omega), drop_cons l i hlt, scr, List.append_assoc]
    rfl
theorem scr_ev (l : List Int) (hb : bytesB l = true) (s : Nat) (hs : s < 256) (h1 : 1 ≤ s) (k : Nat) (hk : 100 < k) : impl_ScrambleBytes.f k (s : Int) l = some (scr s l) := by
  have h40 : l.length ≤ 40 := by unfold bytesB at hb; simp at hb; exact hb.2
  obtain ⟨k, rfl⟩ : ∃ m, k = m + 1 := ⟨k - 1, by omega⟩
  unfold impl_ScrambleBytes.f
  rw [isState_eq s hs h1, iAreBytes_ev l _ (by omega), hb]
  simp only [Option.bind_some, if_true, Bool.not_true, impl_ScrambleBytes.j0]
  rw [if_neg (by decide)]
  exact scr_l0 l h40 l.length [] 0 s hs h1 rfl (by omega) k (by omega)
/-- A cursor that has read no more than there is. -/
def CurOk (l : List Int) (i : Int) : Prop := 0 ≤ i ∧ i ≤ l.length ∧ (l.length : Int) ≤ 140737488351232
theorem byte_ok (l : List Int) (i h : Int) (hc : CurOk l i) : ∃ x i' h', spec_l01Byte.f l i h = some (x, i', h') ∧ 0 ≤ x ∧ x ≤ 255 ∧ CurOk l i' := by
  obtain ⟨h0, h1, h2⟩ := hc
  unfold spec_l01Byte.f
  by_cases hi : i < (l.length : Int)
  · rw [if_pos hi, if_pos h0]
    exact ⟨_, _, _, rfl, (and_mask _ 255 (by decide)).1, (and_mask _ 255 (by decide)).2, by rw [wrap_id _ (by omega)]; exact ⟨by omega, by omega, h2⟩⟩
  · rw [if_neg hi]
    exact ⟨_, _, _, rfl, (and_mask _ 255 (by decide)).1, (and_mask _ 255 (by decide)).2, ⟨h0, h1, h2⟩⟩
theorem below_ok (l : List Int) (i h n : Int) (hc : CurOk l i) (hn : 0 < n) : ∃ x i' h', spec_l01Below.f l i h n = some (x, i', h') ∧ 0 ≤ x ∧ x < n ∧ CurOk l i' := by
  unfold spec_l01Below.f
  rw [if_neg (by omega)]
  by_cases hb : n ≤ 256
  · rw [if_pos hb]
    obtain ⟨x, i1, h1, e, hx0, hx1, hc1⟩ := byte_ok l i h hc
    rw [e]
    simp only [Option.bind_some]
    rw [if_neg (by omega)]
    exact ⟨_, _, _, rfl, (tmod_range x n hx0 hn).1, (tmod_range x n hx0 hn).2, hc1⟩
  · rw [if_neg hb]
    obtain ⟨x, i1, h1, e1, hx0, hx1, hc1⟩ := byte_ok l i h hc
    obtain ⟨y, i2, h2, e2, hy0, hy1, hc2⟩ := byte_ok l i1 h1 hc1
    obtain ⟨z, i3, h3, e3, hz0, hz1, hc3⟩ := byte_ok l i2 h2 hc2
    obtain ⟨w, i4, h4, e4, hw0, hw1, hc4⟩ := byte_ok l i3 h3 hc3
    rw [e1]
    simp only [Option.bind_some]
    rw [e2]
    simp only [Option.bind_some]
    rw [e3]
    simp only [Option.bind_some]
    rw [e4]
    simp only [Option.bind_some]
    rw [if_neg (by omega)]
    have hv : 0 ≤ wrap64 ((wrap64 ((wrap64 ((wrap64 (x * 16777216)) + (wrap64 (y * 65536)))) + (wrap64 (z * 256)))) + w) := by
      rw [wrap_id (x * 16777216) (by omega), wrap_id (y * 65536) (by omega), wrap_id (z * 256) (by omega), wrap_id (x * 16777216 + y * 65536) (by omega), wrap_id (x * 16777216 + y * 65536 + z * 256) (by omega), wrap_id _ (by omega)]
      omega
    exact ⟨_, _, _, rfl, (tmod_range _ n hv hn).1, (tmod_range _ n hv hn).2, hc4⟩
theorem pick_ok (l : List Int) (i h : Int) (xs : List Int) (hc : CurOk l i) (hx : 0 < xs.length) : ∃ x i' h', spec_l01PickInt.f l i h xs = some (x, i', h') ∧ x ∈ xs ∧ CurOk l i' := by
  unfold spec_l01PickInt.f
  obtain ⟨q, i1, h1, e, h0, h2, hc1⟩ := below_ok l i h (xs.length : Int) hc (by omega)
  rw [e]
  simp only [Option.bind_some]
  rw [if_pos h0, if_pos h2]
  obtain ⟨m, rfl⟩ := Int.eq_ofNat_of_zero_le h0
  refine ⟨_, _, _, rfl, ?_, hc1⟩
  rw [rd_lt xs m (by omega)]
  exact List.getElem_mem _
theorem new_l0 (l : List Int) (d : Nat) : ∀ (i : Nat) (h : Int), i + d = 4000 → ∃ h', ∀ k, d < k → spec_l01New.l0 k l h (i : Int) = some (l, 0, h') := by
  induction d with
  | zero =>
    intro i h hi
    refine ⟨h, fun k hk => ?_⟩
    obtain ⟨k, rfl⟩ : ∃ m, k = m + 1 := ⟨k - 1, by omega⟩
    simp only [spec_l01New.l0]
    by_cases hlt : (i : Int) < (l.length : Int)
    · rw [if_pos hlt, if_neg (by omega)]
    · rw [if_neg hlt]
  | succ d ih =>
    intro i h hi
    by_cases hlt : (i : Int) < (l.length : Int)
    · obtain ⟨h', hh⟩ := ih (i + 1) (Go.bits .and .i64 (wrap64 ((wrap64 ((wrap64 (h * 131)) + (wrap64 (rd l i)))) + 7)) 1073741823) (by omega)
      refine ⟨h', fun k hk => ?_⟩
      obtain ⟨k, rfl⟩ : ∃ m, k = m + 1 := ⟨k - 1, by omega⟩
      simp only [spec_l01New.l0]
      rw [if_pos hlt, if_pos (show (i : Int) < 4000 by omega), if_pos (by omega), wrap_succ i (by omega)]
      exact hh k (by omega)
    · refine ⟨h, fun k hk => ?_⟩
      obtain ⟨k, rfl⟩ : ∃ m, k = m + 1 := ⟨k - 1, by omega⟩
      simp only [spec_l01New.l0]
      rw [if_neg hlt]
theorem new_ok (l : List Int) : ∃ h', ∀ k, 4000 < k → spec_l01New.f k l = some (l, 0, h') := by
  unfold spec_l01New.f
  exact new_l0 l 4000 0 _ (by omega)
theorem places_l0 (l : List Int) (d : Nat) : ∀ (n : Nat) (xs : List Int) (i h : Int), n + d = 12 → xs.length = n → (∀ x ∈ xs, 0 ≤ x ∧ x < 10000) → CurOk l i → ∃ ys, ys.length = 12 ∧ (∀ x ∈ ys, 0 ≤ x ∧ x < 10000) ∧ ∀ k, d < k → spec_DrawPlaces.l0 k xs (n : Int) l i h = some ys := by
  induction d with
  | zero =>
    intro n xs i h hn hx hr hc
    refine ⟨xs, by omega, hr, fun k hk => ?_⟩
    obtain ⟨k, rfl⟩ : ∃ m, k = m + 1 := ⟨k - 1, by omega⟩
    simp only [spec_DrawPlaces.l0]
    rw [if_neg (by omega)]
  | succ d ih =>
    intro n xs i h hn hx hr hc
    obtain ⟨x, i1, h1, e, hx0, hx1, hc1⟩ := below_ok l i h 10000 hc (by omega)
    obtain ⟨ys, hy1, hy2, hy3⟩ := ih (n + 1) (xs ++ [x]) i1 h1 (by omega) (by simp [hx]) (by
      intro z hz
      rcases List.mem_append.1 hz with hz | hz
      · exact hr z hz
      · rw [List.mem_singleton.1 hz]; exact ⟨hx0, hx1⟩) hc1
    refine ⟨ys, hy1, hy2, fun k hk => ?_⟩
    obtain ⟨k, rfl⟩ : ∃ m, k = m + 1 := ⟨k - 1, by omega⟩
    simp only [spec_DrawPlaces.l0]
    rw [if_pos (by omega), e]
    simp only [Option.bind_some]
    rw [if_pos (by omega), wrap_succ n (by omega)]
    exact hy3 k (by omega)
theorem places_ok (l : List Int) (hl : (l.length : Int) ≤ 140737488351232) : ∃ ys : List Int, ys.length = 12 ∧ (∀ x ∈ ys, 0 ≤ x ∧ x < 10000) ∧ ∀ k, 4000 < k → spec_DrawPlaces.f k l = some ys := by
  obtain ⟨h, hn⟩ := new_ok l
  obtain ⟨ys, h1, h2, h3⟩ := places_l0 l 12 0 [] 0 h (by omega) rfl (by simp) ⟨by omega, by omega, hl⟩
  refine ⟨ys, h1, h2, fun k hk => ?_⟩
  unfold spec_DrawPlaces.f
  rw [hn k hk]
  simp only [Option.bind_some]
  exact h3 k (by omega)
theorem seed_ok (l : List Int) (hl : (l.length : Int) ≤ 140737488351232) : ∃ s : Nat, s < 256 ∧ 1 ≤ s ∧ ∀ k, 4000 < k → spec_DrawSeed.f k l = some (s : Int) := by
  obtain ⟨h', e⟩ := new_ok l
  obtain ⟨x, i', h'', e2, hx, hx', _⟩ := below_ok l 0 h' 255 ⟨by omega, by omega, hl⟩ (by omega)
  refine ⟨(1 + x).toNat, by omega, by omega, fun k hk => ?_⟩
  unfold spec_DrawSeed.f
  rw [e k hk]
  simp only [Option.bind_some]
  rw [e2]
  simp only [Option.bind_some]
  rw [wrap_id _ (by omega)]
  congr 1
  omega
def wordB (x : Int) : Bool := decide (0 ≤ x ∧ x ≤ 65535)
/-- A valid packet, kind by kind: its words are words (W), and it has m of them. -/
def pkQ (K f t a n g s : Int) (W : Bool) (m : Int) : Prop := (0 ≤ f ∧ f ≤ 255) ∧ W = true ∧
  ((K = 1 ∧ 1 ≤ m ∧ m ≤ 8 ∧ 0 ≤ a ∧ a ≤ 65536 - m ∧ s = 0 ∧ t = 0 ∧ n = 0 ∧ g = 0) ∨
   (K = 2 ∧ 1 ≤ m ∧ m ≤ 8 ∧ a = 0 ∧ s = 0 ∧ t = 0 ∧ n = 0 ∧ g = 0) ∨
   (K = 3 ∧ m = 0 ∧ 1 ≤ n ∧ n ≤ 64 ∧ 0 ≤ a ∧ a ≤ 65536 - n ∧ 0 ≤ g ∧ g ≤ 7 ∧ s = 0 ∧ t = 0) ∨
   (K = 4 ∧ m = 0 ∧ 0 ≤ a ∧ a ≤ 63 ∧ 0 ≤ t ∧ t ≤ 255 ∧ 0 ≤ g ∧ g ≤ 7 ∧ s = 0 ∧ n = 0) ∨
   (K = 5 ∧ m = 1 ∧ 0 ≤ a ∧ a ≤ 63 ∧ 0 ≤ t ∧ t ≤ 255 ∧ 0 ≤ g ∧ g ≤ 7 ∧ s = 0 ∧ n = 0) ∨
   (K = 6 ∧ a = 0 ∧ 0 ≤ t ∧ t ≤ 255 ∧ 0 ≤ g ∧ g ≤ 7 ∧ 0 ≤ s ∧ s ≤ 2 ∧ 0 ≤ n ∧ n ≤ 64 ∧ (m = 0 ∨ s = 0 ∧ m ≤ 8 ∧ m ≤ n)))
instance (K f t a n g s : Int) (W : Bool) (m : Int) : Decidable (pkQ K f t a n g s W m) := by unfold pkQ; infer_instance
def pkB (K f t a n g s : Int) (l : List Int) : Bool := decide (pkQ K f t a n g s (l.all wordB) (l.length : Int))
/-- Whether the data fit to the kind, as the program asks it. -/
def dataQ (K n s : Int) (m : Int) : Prop := (K = 1 ∨ K = 2) ∧ 1 ≤ m ∧ m ≤ 8 ∨ K = 5 ∧ m = 1 ∨ K = 6 ∧ s = 0 ∧ m ≤ 8 ∧ m ≤ n ∨ (K ≠ 1 ∧ K ≠ 2 ∧ K ≠ 5 ∧ ¬ (K = 6 ∧ s = 0)) ∧ m = 0
instance (K n s m : Int) : Decidable (dataQ K n s m) := by unfold dataQ; infer_instance
theorem notWord_eq (x : Int) : impl_Packet_dataOk_1.f x = some (!wordB x) := by
  unfold impl_Packet_dataOk_1.f impl_isWord.f
  rw [within_eq]
  rfl
theorem cWords_l0 (l : List (Int)) (hl : l.length ≤ 1048576) (d : Nat) : ∀ i : Nat, i + d = l.length → ∀ k, 0 + d < k → ∃ r, slices_IndexFunc_int_int__impl_Packet__dataOk_1.l0 k l (l.length : Int) (i : Int) = some r ∧ decide (r ≥ 0) = (l.drop i).any (fun x => !wordB x) := by
  induction d with
  | zero =>
    intro i hi k hk
    obtain ⟨k, rfl⟩ : ∃ m, k = m + 1 := ⟨k - 1, by omega⟩
    refine ⟨-1, ?_, ?_⟩
    · simp only [slices_IndexFunc_int_int__impl_Packet__dataOk_1.l0]
      rw [if_neg (show ¬ (i : Int) < (l.length : Int) by omega)]
    · rw [drop_all l i (by omega)]; rfl
  | succ d ih =>
    intro i hi k hk
    obtain ⟨k, rfl⟩ : ∃ m, k = m + 1 := ⟨k - 1, by omega⟩
    have hlt : i < l.length := by omega
    simp only [slices_IndexFunc_int_int__impl_Packet__dataOk_1.l0]
    rw [if_pos (show (i : Int) < (l.length : Int) by omega), if_pos (show (0 : Int) ≤ (i : Int) by omega), if_pos (show (i : Int) < (l.length : Int) by omega), rd_lt l i hlt, notWord_eq l[i]]
    simp only [Option.bind_some]
    by_cases hp : (fun x => !wordB x) l[i] = true
    · rw [if_pos hp]
      exact ⟨_, rfl, by rw [any_drop_yes l i hlt _ hp, decide_eq_true (by omega)]⟩
    · rw [if_neg hp, wrap_succ i (by omega)]
      obtain ⟨r, h1, h2⟩ := ih (i + 1) (by omega) k (by omega)
      exact ⟨r, h1, by rw [h2, any_drop_no l i hlt _ hp]⟩
theorem cWords_ev (l : List (Int)) (hl : l.length ≤ 1048576) (k : Nat) (hk : 0 + l.length < k) : slices_ContainsFunc_int_int__impl_Packet__dataOk_1.f k l = some (l.any (fun x => !wordB x)) := by
  obtain ⟨r, h1, h2⟩ := cWords_l0 l hl l.length 0 (by omega) k hk
  unfold slices_ContainsFunc_int_int__impl_Packet__dataOk_1.f slices_IndexFunc_int_int__impl_Packet__dataOk_1.f
  have c0 : ((0 : Nat) : Int) = 0 := rfl
  rw [c0] at h1
  rw [h1]
  simp only [Option.bind_some]
  rw [h2]; rfl
theorem iDataOk_ev (K f t a n g s : Int) (l : List Int) (hl : l.length ≤ 1048576) (k : Nat) (hk : 1048580 < k) : impl_Packet_dataOk.f k K f t a n g s l = some (l.all wordB && decide (dataQ K n s (l.length : Int))) := by
  obtain ⟨k, rfl⟩ : ∃ m, k = m + 1 := ⟨k - 1, by omega⟩
  unfold impl_Packet_dataOk.f
  rw [cWords_ev l hl _ (by omega)]
  simp only [Option.bind_some, impl_Packet_dataOk.j0, within_eq, if_true]
  rw [← any_not l wordB]
  generalize (l.any fun x => !wordB x) = W
  generalize (l.length : Int) = m
  cases W
  all_goals simp only [Bool.false_eq_true, if_false, if_true, Bool.not_false, Bool.not_true, Bool.true_and, Bool.false_and, beq_iff_eq]
  all_goals repeat' split
  all_goals first | rfl | (congr 1; rw [Bool.eq_iff_iff]; simp only [beq_iff_eq, decide_eq_true_eq, Bool.false_eq_true, false_iff, true_iff]; unfold dataQ; omega)
set_option maxHeartbeats 2000000 in
theorem iIsPacket_ev (K f t a n g s : Int) (l : List Int) (hl : l.length ≤ 1048576) (k : Nat) (hk : 1048590 < k) : impl_IsPacket.f k K f t a n g s l = some (pkB K f t a n g s l) := by
  obtain ⟨k, rfl⟩ : ∃ m, k = m + 3 := ⟨k - 3, by omega⟩
  unfold impl_IsPacket.f impl_IsId.f impl_Packet_addressOk.f impl_Packet_lengthOk.f pkB
  simp only [Option.bind_some, within_eq, impl_IsPacket.j0, impl_IsPacket.j1, impl_IsPacket.j2, impl_Packet_addressOk.j0, impl_Packet_words.f, impl_IsId.f, iDataOk_ev K f t a n g s l hl _ (show 1048580 < k by omega), decide_eq_true_eq, Bool.not_eq_true', Bool.false_eq_true, if_false, if_true]
  have hm : (0 : Int) ≤ (l.length : Int) ∧ (l.length : Int) ≤ 1048576 := by omega
  generalize (l.length : Int) = m at hm ⊢
  generalize l.all wordB = W
  by_cases hf : 0 ≤ f ∧ f ≤ 255
  case neg =>
    simp only [hf, if_false, if_true, Bool.true_eq_false]
    have e : decide (pkQ K f t a n g s W m) = false := by rw [decide_eq_false_iff_not]; unfold pkQ; exact fun h => hf h.1
    rw [e]
    repeat' split
    all_goals rfl
  by_cases k1 : K = 1
  · subst k1
    simp only [Int.reduceEq, Int.reduceLE, Int.reduceBEq, hf, if_true, if_false, Option.bind_some, and_true, true_and, and_false, false_and, Bool.true_eq_false, Bool.false_eq_true]
    cases W
    all_goals repeat' (first | (simp only [Option.bind_some, decide_eq_true_eq, Bool.false_eq_true, if_false, if_true, Bool.false_and, Bool.true_and]) | split)
    all_goals ((try simp only [Option.bind_some]); congr 1; rw [Bool.eq_iff_iff]; (try simp only [beq_iff_eq, decide_eq_true_eq, Bool.and_eq_true, Bool.false_eq_true]); unfold pkQ; (try unfold dataQ); (try simp only [eq_self, Bool.false_eq_true, true_and, false_and, and_false, false_iff, true_iff, iff_false, iff_true, not_false_eq_true, not_true_eq_false]); first | done | omega | ((try simp only [le_mn]); omega) | ((try simp only [wrap64, beq_eq_false_iff_ne, bne_iff_ne, beq_iff_eq, ne_eq, decide_eq_false_iff_not, Decidable.not_not, true_or, or_true, true_and, not_true_eq_false, not_false_eq_true, false_and, and_false, and_true, or_false, false_or, iff_false, iff_true, false_iff, true_iff, Int.reduceEq] at *); (try simp only [le_mn]); first | done | omega))
  by_cases k2 : K = 2
  · subst k2
    simp only [Int.reduceEq, Int.reduceLE, Int.reduceBEq, hf, if_true, if_false, Option.bind_some, and_true, true_and, and_false, false_and, Bool.true_eq_false, Bool.false_eq_true]
    cases W
    all_goals repeat' (first | (simp only [Option.bind_some, decide_eq_true_eq, Bool.false_eq_true, if_false, if_true, Bool.false_and, Bool.true_and]) | split)
    all_goals ((try simp only [Option.bind_some]); congr 1; rw [Bool.eq_iff_iff]; (try simp only [beq_iff_eq, decide_eq_true_eq, Bool.and_eq_true, Bool.false_eq_true]); unfold pkQ; (try unfold dataQ); (try simp only [eq_self, Bool.false_eq_true, true_and, false_and, and_false, false_iff, true_iff, iff_false, iff_true, not_false_eq_true, not_true_eq_false]); first | done | omega | ((try simp only [le_mn]); omega) | ((try simp only [wrap64, beq_eq_false_iff_ne, bne_iff_ne, beq_iff_eq, ne_eq, decide_eq_false_iff_not, Decidable.not_not, true_or, or_true, true_and, not_true_eq_false, not_false_eq_true, false_and, and_false, and_true, or_false, false_or, iff_false, iff_true, false_iff, true_iff, Int.reduceEq] at *); (try simp only [le_mn]); first | done | omega))
  by_cases k3 : K = 3
  · subst k3
    simp only [Int.reduceEq, Int.reduceLE, Int.reduceBEq, hf, if_true, if_false, Option.bind_some, and_true, true_and, and_false, false_and, Bool.true_eq_false, Bool.false_eq_true]
    cases W
    all_goals repeat' (first | (simp only [Option.bind_some, decide_eq_true_eq, Bool.false_eq_true, if_false, if_true, Bool.false_and, Bool.true_and]) | split)
    all_goals ((try simp only [Option.bind_some]); congr 1; rw [Bool.eq_iff_iff]; (try simp only [beq_iff_eq, decide_eq_true_eq, Bool.and_eq_true, Bool.false_eq_true]); unfold pkQ; (try unfold dataQ); (try simp only [eq_self, Bool.false_eq_true, true_and, false_and, and_false, false_iff, true_iff, iff_false, iff_true, not_false_eq_true, not_true_eq_false]); first | done | omega | ((try simp only [le_mn]); omega) | ((try simp only [wrap64, beq_eq_false_iff_ne, bne_iff_ne, beq_iff_eq, ne_eq, decide_eq_false_iff_not, Decidable.not_not, true_or, or_true, true_and, not_true_eq_false, not_false_eq_true, false_and, and_false, and_true, or_false, false_or, iff_false, iff_true, false_iff, true_iff, Int.reduceEq] at *); (try simp only [le_mn]); first | done | omega))
  by_cases k4 : K = 4
  · subst k4
    simp only [Int.reduceEq, Int.reduceLE, Int.reduceBEq, hf, if_true, if_false, Option.bind_some, and_true, true_and, and_false, false_and, Bool.true_eq_false, Bool.false_eq_true]
    cases W
    all_goals repeat' (first | (simp only [Option.bind_some, decide_eq_true_eq, Bool.false_eq_true, if_false, if_true, Bool.false_and, Bool.true_and]) | split)
    all_goals ((try simp only [Option.bind_some]); congr 1; rw [Bool.eq_iff_iff]; (try simp only [beq_iff_eq, decide_eq_true_eq, Bool.and_eq_true, Bool.false_eq_true]); unfold pkQ; (try unfold dataQ); (try simp only [eq_self, Bool.false_eq_true, true_and, false_and, and_false, false_iff, true_iff, iff_false, iff_true, not_false_eq_true, not_true_eq_false]); first | done | omega | ((try simp only [le_mn]); omega) | ((try simp only [wrap64, beq_eq_false_iff_ne, bne_iff_ne, beq_iff_eq, ne_eq, decide_eq_false_iff_not, Decidable.not_not, true_or, or_true, true_and, not_true_eq_false, not_false_eq_true, false_and, and_false, and_true, or_false, false_or, iff_false, iff_true, false_iff, true_iff, Int.reduceEq] at *); (try simp only [le_mn]); first | done | omega))
  by_cases k5 : K = 5
  · subst k5
    simp only [Int.reduceEq, Int.reduceLE, Int.reduceBEq, hf, if_true, if_false, Option.bind_some, and_true, true_and, and_false, false_and, Bool.true_eq_false, Bool.false_eq_true]
    cases W
    all_goals repeat' (first | (simp only [Option.bind_some, decide_eq_true_eq, Bool.false_eq_true, if_false, if_true, Bool.false_and, Bool.true_and]) | split)
    all_goals ((try simp only [Option.bind_some]); congr 1; rw [Bool.eq_iff_iff]; (try simp only [beq_iff_eq, decide_eq_true_eq, Bool.and_eq_true, Bool.false_eq_true]); unfold pkQ; (try unfold dataQ); (try simp only [eq_self, Bool.false_eq_true, true_and, false_and, and_false, false_iff, true_iff, iff_false, iff_true, not_false_eq_true, not_true_eq_false]); first | done | omega | ((try simp only [le_mn]); omega) | ((try simp only [wrap64, beq_eq_false_iff_ne, bne_iff_ne, beq_iff_eq, ne_eq, decide_eq_false_iff_not, Decidable.not_not, true_or, or_true, true_and, not_true_eq_false, not_false_eq_true, false_and, and_false, and_true, or_false, false_or, iff_false, iff_true, false_iff, true_iff, Int.reduceEq] at *); (try simp only [le_mn]); first | done | omega))
  by_cases k6 : K = 6
  · subst k6
    simp only [Int.reduceEq, Int.reduceLE, Int.reduceBEq, hf, if_true, if_false, Option.bind_some, and_true, true_and, and_false, false_and, Bool.true_eq_false, Bool.false_eq_true]
    cases W
    all_goals repeat' (first | (simp only [Option.bind_some, decide_eq_true_eq, Bool.false_eq_true, if_false, if_true, Bool.false_and, Bool.true_and]) | split)
    all_goals ((try simp only [Option.bind_some]); congr 1; rw [Bool.eq_iff_iff]; (try simp only [beq_iff_eq, decide_eq_true_eq, Bool.and_eq_true, Bool.false_eq_true]); unfold pkQ; (try unfold dataQ); (try simp only [eq_self, Bool.false_eq_true, true_and, false_and, and_false, false_iff, true_iff, iff_false, iff_true, not_false_eq_true, not_true_eq_false]); first | done | omega | ((try simp only [le_mn]); omega) | ((try simp only [wrap64, beq_eq_false_iff_ne, bne_iff_ne, beq_iff_eq, ne_eq, decide_eq_false_iff_not, Decidable.not_not, true_or, or_true, true_and, not_true_eq_false, not_false_eq_true, false_and, and_false, and_true, or_false, false_or, iff_false, iff_true, false_iff, true_iff, Int.reduceEq] at *); (try simp only [le_mn]); first | done | omega))
  simp only [show ¬ (1 ≤ K ∧ K ≤ 6) by omega, if_false, if_true]
  ((try simp only [Option.bind_some]); congr 1; rw [Bool.eq_iff_iff]; (try simp only [beq_iff_eq, decide_eq_true_eq, Bool.and_eq_true, Bool.false_eq_true]); unfold pkQ; (try unfold dataQ); (try simp only [eq_self, Bool.false_eq_true, true_and, false_and, and_false, false_iff, true_iff, iff_false, iff_true, not_false_eq_true, not_true_eq_false]); first | done | omega | ((try simp only [le_mn]); omega) | ((try simp only [wrap64, beq_eq_false_iff_ne, bne_iff_ne, beq_iff_eq, ne_eq, decide_eq_false_iff_not, Decidable.not_not, true_or, or_true, true_and, not_true_eq_false, not_false_eq_true, false_and, and_false, and_true, or_false, false_or, iff_false, iff_true, false_iff, true_iff, Int.reduceEq] at *); (try simp only [le_mn]); first | done | omega))
theorem data_l0 (l : List Int) (m : Nat) (hm : m ≤ 100) (d : Nat) : ∀ (n : Nat) (xs : List Int) (i h : Int), n + d = m → xs.length = n → xs.all wordB = true → CurOk l i → ∃ ys i' h', ys.length = m ∧ ys.all wordB = true ∧ CurOk l i' ∧ ∀ k, d < k → spec_l04Data.l0 k (m : Int) xs (n : Int) l i h = some (ys, i', h') := by
  induction d with
  | zero =>
    intro n xs i h hn hx hr hc
    refine ⟨xs, i, h, by omega, hr, hc, fun k hk => ?_⟩
    obtain ⟨k, rfl⟩ : ∃ m, k = m + 1 := ⟨k - 1, by omega⟩
    simp only [spec_l04Data.l0]
    rw [if_neg (by omega)]
  | succ d ih =>
    intro n xs i h hn hx hr hc
    obtain ⟨x, i1, h1, e1, hx0, hx1, hc1⟩ := below_ok l i h 256 hc (by omega)
    obtain ⟨y, i2, h2, e2, hy0, hy1, hc2⟩ := below_ok l i1 h1 65536 hc1 (by omega)
    obtain ⟨z, i3, h3, e3, hz, hc3⟩ := pick_ok l i2 h2 [0, 1, 65535, x, y] hc2 (by simp)
    have hz' : 0 ≤ z ∧ z ≤ 65535 := by
      simp only [List.mem_cons, List.not_mem_nil, or_false] at hz
      omega
    obtain ⟨ys, i', h', hy1', hy2', hy3', hy4'⟩ := ih (n + 1) (xs ++ [z]) i3 h3 (by omega) (by simp [hx]) (by
      rw [List.all_append, hr, List.all_cons, List.all_nil]
      simp [wordB, hz'.1, hz'.2]) hc3
    refine ⟨ys, i', h', hy1', hy2', hy3', fun k hk => ?_⟩
    obtain ⟨k, rfl⟩ : ∃ m, k = m + 1 := ⟨k - 1, by omega⟩
    simp only [spec_l04Data.l0]
    rw [if_pos (by omega), e1]
    simp only [Option.bind_some]
    rw [e2]
    simp only [Option.bind_some]
    rw [e3]
    simp only [Option.bind_some]
    rw [if_pos (by omega), wrap_succ n (by omega)]
    exact hy4' k (by omega)
theorem data_ok (l : List Int) (i h m : Int) (hm : 0 ≤ m ∧ m ≤ 100) (hc : CurOk l i) : ∃ ys i' h', (ys.length : Int) = m ∧ ys.all wordB = true ∧ CurOk l i' ∧ ∀ k, 100 < k → spec_l04Data.f k l i h m = some (ys, i', h') := by
  obtain ⟨n, rfl⟩ := Int.eq_ofNat_of_zero_le hm.1
  obtain ⟨ys, i', h', h1, h2, h3, h4⟩ := data_l0 l n (by omega) n 0 [] i h (by omega) rfl rfl hc
  refine ⟨ys, i', h', by omega, h2, h3, fun k hk => ?_⟩
  unfold spec_l04Data.f
  exact h4 k (by omega)
theorem pk_data {K f t a n g s m : Int} {xs : List Int} (hm : (xs.length : Int) = m) (hv : xs.all wordB = true) (h : pkQ K f t a n g s true m) : pkB K f t a n g s xs = true := by
  unfold pkB
  rw [hv, hm]
  exact decide_eq_true h
theorem pk_nil {K f t a n g s : Int} (h : pkQ K f t a n g s true 0) : pkB K f t a n g s [] = true := pk_data rfl rfl h
set_option maxHeartbeats 2000000 in
/-- A drawn packet is a valid one. -/
theorem packet_ok (l : List Int) (i h : Int) (hc : CurOk l i) : ∃ K f t a n g s xs i' h', pkB K f t a n g s xs = true ∧ CurOk l i' ∧ ∀ k, 200 < k → spec_l04Packet.f k l i h = some (K, f, t, a, n, g, s, xs, i', h') := by
  obtain ⟨x, i1, h1, e1, hx0, hx1, hc1⟩ := below_ok l i h 6 hc (by omega)
  obtain ⟨f, i2, h2, e2, hf0, hf1, hc2⟩ := below_ok l i1 h1 256 hc1 (by omega)
  have hx : x = 0 ∨ x = 1 ∨ x = 2 ∨ x = 3 ∨ x = 4 ∨ x = 5 := by omega
  rcases hx with rfl | rfl | rfl | rfl | rfl | rfl
  · have hw : wrap64 1 = 1 := wrap_id _ (by omega)
    obtain ⟨q, i3, h3, e3, hq0, hq1, hc3⟩ := below_ok l i2 h2 8 hc2 (by omega)
    have hq : wrap64 (1 + q) = 1 + q := wrap_id _ (by omega)
    obtain ⟨ys, i4, h4, hl, hv, hc4, e4⟩ := data_ok l i3 h3 (1 + q) (by omega) hc3
    obtain ⟨y, i5, h5, e5, hy0, hy1, hc5⟩ := below_ok l i4 h4 60000 hc4 (by omega)
    obtain ⟨a, i6, h6, e6, ha, hc6⟩ := pick_ok l i5 h5 [0, 100, 4096, 65528, y] hc5 (by simp)
    simp only [List.mem_cons, List.not_mem_nil, or_false] at ha
    refine ⟨1, f, 0, a, 0, 0, 0, ys, i6, h6, ?_, hc6, fun k hk => ?_⟩
    · exact pk_data hl hv ⟨⟨by omega, by omega⟩, rfl, by omega⟩
    · obtain ⟨k, rfl⟩ : ∃ m, k = m + 2 := ⟨k - 2, by omega⟩
      unfold spec_l04Packet.f
      simp only [hw, hq, Option.bind_some, spec_l04Packet.j0, spec_l04Packet.j1, Int.reduceEq, Int.reduceBEq, Int.reduceAdd, if_true, if_false, Bool.false_eq_true, e1, e2, e3, e4 (k + 1) (by omega), e5, e6]
  · have hw : wrap64 2 = 2 := wrap_id _ (by omega)
    obtain ⟨q, i3, h3, e3, hq0, hq1, hc3⟩ := below_ok l i2 h2 8 hc2 (by omega)
    have hq : wrap64 (1 + q) = 1 + q := wrap_id _ (by omega)
    obtain ⟨ys, i4, h4, hl, hv, hc4, e4⟩ := data_ok l i3 h3 (1 + q) (by omega) hc3
    refine ⟨2, f, 0, 0, 0, 0, 0, ys, i4, h4, ?_, hc4, fun k hk => ?_⟩
    · exact pk_data hl hv ⟨⟨by omega, by omega⟩, rfl, by omega⟩
    · obtain ⟨k, rfl⟩ : ∃ m, k = m + 2 := ⟨k - 2, by omega⟩
      unfold spec_l04Packet.f
      simp only [hw, hq, Option.bind_some, spec_l04Packet.j0, spec_l04Packet.j1, Int.reduceEq, Int.reduceBEq, Int.reduceAdd, if_true, if_false, Bool.false_eq_true, e1, e2, e3, e4 (k + 1) (by omega)]
  · have hw : wrap64 3 = 3 := wrap_id _ (by omega)
    obtain ⟨n, i3, h3, e3, hn, hc3⟩ := pick_ok l i2 h2 [1, 4, 8, 20, 64] hc2 (by simp)
    obtain ⟨y, i5, h5, e5, hy0, hy1, hc5⟩ := below_ok l i3 h3 60000 hc3 (by omega)
    obtain ⟨a, i6, h6, e6, ha, hc6⟩ := pick_ok l i5 h5 [0, 100, 4096, 65472, y] hc5 (by simp)
    obtain ⟨g, i7, h7, e7, hg0, hg1, hc7⟩ := below_ok l i6 h6 8 hc6 (by omega)
    simp only [List.mem_cons, List.not_mem_nil, or_false] at ha hn
    refine ⟨3, f, 0, a, n, g, 0, [], i7, h7, ?_, hc7, fun k hk => ?_⟩
    · exact pk_nil ⟨⟨by omega, by omega⟩, rfl, by omega⟩
    · obtain ⟨k, rfl⟩ : ∃ m, k = m + 2 := ⟨k - 2, by omega⟩
      unfold spec_l04Packet.f
      simp only [hw, Option.bind_some, spec_l04Packet.j0, spec_l04Packet.j1, Int.reduceEq, Int.reduceBEq, Int.reduceAdd, if_true, if_false, Bool.false_eq_true, e1, e2, e3, e5, e6, e7]
  · have hw : wrap64 4 = 4 := wrap_id _ (by omega)
    obtain ⟨t, i3, h3, e3, ht0, ht1, hc3⟩ := below_ok l i2 h2 256 hc2 (by omega)
    obtain ⟨a, i4, h4, e4, ha0, ha1, hc4⟩ := below_ok l i3 h3 64 hc3 (by omega)
    obtain ⟨g, i5, h5, e5, hg0, hg1, hc5⟩ := below_ok l i4 h4 8 hc4 (by omega)
    refine ⟨4, f, t, a, 0, g, 0, [], i5, h5, ?_, hc5, fun k hk => ?_⟩
    · exact pk_nil ⟨⟨by omega, by omega⟩, rfl, by omega⟩
    · obtain ⟨k, rfl⟩ : ∃ m, k = m + 2 := ⟨k - 2, by omega⟩
      unfold spec_l04Packet.f
      simp only [hw, Option.bind_some, spec_l04Packet.j0, spec_l04Packet.j1, Int.reduceEq, Int.reduceBEq, Int.reduceAdd, if_true, if_false, Bool.false_eq_true, e1, e2, e3, e4, e5]
  · have hw : wrap64 5 = 5 := wrap_id _ (by omega)
    obtain ⟨t, i3, h3, e3, ht0, ht1, hc3⟩ := below_ok l i2 h2 256 hc2 (by omega)
    obtain ⟨a, i4, h4, e4, ha0, ha1, hc4⟩ := below_ok l i3 h3 64 hc3 (by omega)
    obtain ⟨g, i5, h5, e5, hg0, hg1, hc5⟩ := below_ok l i4 h4 8 hc4 (by omega)
    obtain ⟨ys, i6, h6, hl, hv, hc6, e6⟩ := data_ok l i5 h5 1 (by omega) hc5
    refine ⟨5, f, t, a, 0, g, 0, ys, i6, h6, ?_, hc6, fun k hk => ?_⟩
    · exact pk_data hl hv ⟨⟨by omega, by omega⟩, rfl, by omega⟩
    · obtain ⟨k, rfl⟩ : ∃ m, k = m + 2 := ⟨k - 2, by omega⟩
      unfold spec_l04Packet.f
      simp only [hw, Option.bind_some, spec_l04Packet.j0, spec_l04Packet.j1, Int.reduceEq, Int.reduceBEq, Int.reduceAdd, if_true, if_false, Bool.false_eq_true, e1, e2, e3, e4, e5, e6 k (by omega)]
  · have hw : wrap64 6 = 6 := wrap_id _ (by omega)
    obtain ⟨t, i3, h3, e3, ht0, ht1, hc3⟩ := below_ok l i2 h2 256 hc2 (by omega)
    obtain ⟨g, i4, h4, e4, hg0, hg1, hc4⟩ := below_ok l i3 h3 8 hc3 (by omega)
    obtain ⟨s, i5, h5, e5, hs, hc5⟩ := pick_ok l i4 h4 [0, 0, 0, 1, 2] hc4 (by simp)
    obtain ⟨n, i6, h6, e6, hn, hc6⟩ := pick_ok l i5 h5 [8, 0, 20, 64] hc5 (by simp)
    simp only [List.mem_cons, List.not_mem_nil, or_false] at hs hn
    by_cases hs0 : s = 0
    · obtain ⟨b, i7, h7, e7, hb0, hb1, hc7⟩ := below_ok l i6 h6 9 hc6 (by omega)
      have hmn : 0 ≤ mn n b ∧ mn n b ≤ 8 ∧ mn n b ≤ n := by unfold mn; split <;> omega
      obtain ⟨ys, i8, h8, hl, hv, hc8, e8⟩ := data_ok l i7 h7 (mn n b) (by omega) hc7
      refine ⟨6, f, t, 0, n, g, s, ys, i8, h8, ?_, hc8, fun k hk => ?_⟩
      · exact pk_data hl hv ⟨⟨by omega, by omega⟩, rfl, by omega⟩
      · obtain ⟨k, rfl⟩ : ∃ m, k = m + 2 := ⟨k - 2, by omega⟩
        unfold spec_l04Packet.f
        simp only [hw, Option.bind_some, spec_l04Packet.j0, spec_l04Packet.j1, Int.reduceEq, Int.reduceBEq, Int.reduceAdd, if_true, if_false, Bool.false_eq_true, e1, e2, e3, e4, e5, e6, hs0, e7, e8 k (by omega)]
    · refine ⟨6, f, t, 0, n, g, s, [], i6, h6, ?_, hc6, fun k hk => ?_⟩
      · exact pk_nil ⟨⟨by omega, by omega⟩, rfl, by omega⟩
      · obtain ⟨k, rfl⟩ : ∃ m, k = m + 2 := ⟨k - 2, by omega⟩
        unfold spec_l04Packet.f
        simp only [hw, Option.bind_some, spec_l04Packet.j0, spec_l04Packet.j1, Int.reduceEq, Int.reduceBEq, Int.reduceAdd, if_true, if_false, Bool.false_eq_true, e1, e2, e3, e4, e5, e6, hs0]
theorem pkB_len {K f t a n g s : Int} {l : List Int} (h : pkB K f t a n g s l = true) : l.length ≤ 8 := by
  unfold pkB at h
  have h := of_decide_eq_true h
  unfold pkQ at h
  have h := h.2.2
  omega
theorem drawPacket_ok (l : List Int) (hl : (l.length : Int) ≤ 140737488351232) : ∃ K f t a n g s xs, pkB K f t a n g s xs = true ∧ ∀ k, 4000 < k → spec_DrawPacket.f k l = some (K, f, t, a, n, g, s, xs) := by
  obtain ⟨h, e0⟩ := new_ok l
  obtain ⟨K, f, t, a, n, g, s, xs, i', h', hp, _, e1⟩ := packet_ok l 0 h ⟨by omega, by omega, hl⟩
  refine ⟨K, f, t, a, n, g, s, xs, hp, fun k hk => ?_⟩
  unfold spec_DrawPacket.f
  rw [e0 k hk]
  simp only [Option.bind_some]
  rw [e1 k (by omega)]
  rfl
theorem tdiv_range (x : Int) (h : 0 ≤ x ∧ x ≤ 65535) : 0 ≤ Int.tdiv x 256 ∧ Int.tdiv x 256 ≤ 255 := by
  rw [Int.tdiv_eq_ediv_of_nonneg h.1]
  omega
/-- The bytes of a valid packet are bytes. -/
theorem enc_l0 (l : List Int) (hl : l.length ≤ 8) (hw : l.all wordB = true) (d : Nat) : ∀ (i : Nat) (xs : List Int), i + d = l.length → xs.length = 8 + 2 * i → xs.all byteB = true → ∃ ys : List Int, ys.length = 8 + 2 * l.length ∧ ys.all byteB = true ∧ ∀ k, d < k → impl_EncodePacket.l0 k xs l (l.length : Int) (i : Int) = some ys := by
  induction d with
  | zero =>
    intro i xs hi hx hb
    refine ⟨xs, by omega, hb, fun k hk => ?_⟩
    obtain ⟨k, rfl⟩ : ∃ m, k = m + 1 := ⟨k - 1, by omega⟩
    simp only [impl_EncodePacket.l0]
    rw [if_neg (by omega)]
  | succ d ih =>
    intro i xs hi hx hb
    have hlt : i < l.length := by omega
    have h1 : wordB l[i] = true := List.all_eq_true.mp hw _ (List.getElem_mem hlt)
    have h2 : 0 ≤ l[i] ∧ l[i] ≤ 65535 := of_decide_eq_true h1
    have h3 := (tdiv_range l[i] h2)
    have h4 := tmod_range l[i] 256 h2.1 (by omega)
    have hw1 : wrap64 (Int.tdiv l[i] 256) = Int.tdiv l[i] 256 := wrap_id _ (by omega)
    obtain ⟨ys, g1, g2, g3⟩ := ih (i + 1) (xs ++ [Int.tdiv l[i] 256, Int.tmod l[i] 256]) (by omega) (by simp [hx]; omega) (by
      rw [List.all_append, hb, List.all_cons, List.all_cons, List.all_nil]
      simp only [byteB, Bool.and_true, Bool.true_and, Bool.and_eq_true, decide_eq_true_eq]
      omega)
    refine ⟨ys, g1, g2, fun k hk => ?_⟩
    obtain ⟨k, rfl⟩ : ∃ m, k = m + 1 := ⟨k - 1, by omega⟩
    simp only [impl_EncodePacket.l0]
    rw [if_pos (by omega), if_pos (by omega), if_pos (by omega), rd_lt l i hlt, hw1]
    simp only [Option.bind_some]
    rw [if_pos (by simp [hx]; omega), wrap_succ i (by omega)]
    exact g3 k (by omega)
theorem enc_ok {K f t a n g s : Int} {l : List Int} (h : pkB K f t a n g s l = true) : ∃ ys : List Int, ys.length = 8 + 2 * l.length ∧ ys.all byteB = true ∧ ∀ k, 1048600 < k → impl_EncodePacket.f k K f t a n g s l = some ys := by
  have hl := pkB_len h
  have hq : pkQ K f t a n g s (l.all wordB) (l.length : Int) := of_decide_eq_true h
  unfold pkQ at hq
  obtain ⟨hf, hw, hq⟩ := hq
  have ha : 0 ≤ a ∧ a ≤ 65535 := by omega
  have hg : 0 ≤ g ∧ g ≤ 7 := by omega
  have hs : 0 ≤ s ∧ s ≤ 2 := by omega
  have h3 := tdiv_range a ha
  have h4 := tmod_range a 256 ha.1 (by omega)
  have hw1 : wrap64 (Int.tdiv a 256) = Int.tdiv a 256 := wrap_id _ (by omega)
  have hw2 : wrap64 (wrap64 (g * 16) + s) = g * 16 + s := by rw [wrap_id (g * 16) (by omega), wrap_id _ (by omega)]
  obtain ⟨ys, g1, g2, g3⟩ := enc_l0 l hl hw l.length 0 [K, f, t, Int.tdiv a 256, Int.tmod a 256, n, g * 16 + s, (l.length : Int)] (by omega) rfl (by
    simp only [List.all_cons, List.all_nil, byteB, Bool.and_true, Bool.and_eq_true, decide_eq_true_eq]
    omega)
  refine ⟨ys, g1, g2, fun k hk => ?_⟩
  unfold impl_EncodePacket.f
  rw [iIsPacket_ev K f t a n g s l (by omega) k (by omega), h, hw1, hw2]
  simp only [Option.bind_some, if_true]
  exact g3 k (by omega)
theorem sameInts_l0 (a b : List Int) (hl : a.length = b.length) (hb : a.length < 9223372036854775807) (d : Nat) : ∀ (i : Nat), i + d = a.length → ∀ k, d < k → laws_sameInts.l0 k a b (i : Int) = some (decide (a.drop i = b.drop i)) := by
  induction d with
  | zero =>
    intro i hi k hk
    obtain ⟨k, rfl⟩ : ∃ m, k = m + 1 := ⟨k - 1, by omega⟩
    simp only [laws_sameInts.l0]
    rw [if_neg (show ¬ (i : Int) < (a.length : Int) by omega), drop_all a i (by omega), drop_all b i (by omega)]
    simp
  | succ d ih =>
    intro i hi k hk
    obtain ⟨k, rfl⟩ : ∃ m, k = m + 1 := ⟨k - 1, by omega⟩
    simp only [laws_sameInts.l0]
    rw [if_pos (show (i : Int) < (a.length : Int) by omega), if_pos (show (0 : Int) ≤ (i : Int) by omega), if_pos (show (i : Int) < (b.length : Int) by omega)]
    by_cases he : rd a (i : Int) = rd b (i : Int)
    · rw [if_pos he, wrap_succ i (by omega), ih (i + 1) (by omega) k (by omega)]
      congr 1
      rw [decide_eq_decide, drop_eq_iff a b i (by omega) (by omega)]
      exact ⟨fun h => ⟨he, h⟩, fun h => h.2⟩
    · rw [if_neg he]
      congr 1
      symm
      rw [decide_eq_false_iff_not, drop_eq_iff a b i (by omega) (by omega)]
      exact fun h => he h.1
theorem sameInts_ev (a b : List Int) (hb : a.length < 9223372036854775807) : ∀ k, a.length < k → laws_sameInts.f k a b = some (decide (a = b)) := by
  intro k hk
  unfold laws_sameInts.f
  by_cases hl : a.length = b.length
  · rw [if_pos (by omega)]
    exact sameInts_l0 a b hl hb a.length 0 (by omega) k hk
  · rw [if_neg (by omega), decide_eq_false (fun h => hl (by rw [h]))]

theorem rd_range (p : List Int) (hp : p.length = 12) (hr : ∀ x ∈ p, 0 ≤ x ∧ x < 10000) (i : Nat) (hi : i < 12) : 0 ≤ rd p (i : Int) ∧ rd p (i : Int) < 10000 := by
  rw [rd_lt p i (by omega)]
  exact hr _ (List.getElem_mem _)
theorem FnScrambles : laws_FnScrambles.Pure := by
  intro l hm hl _
  have hl : (l.length : Int) ≤ 140737488351232 := by omega
  obtain ⟨s, hs, hs1, e1⟩ := seed_ok l hl
  obtain ⟨K, f, t, a, n, g, z, xs, hp, e2⟩ := drawPacket_ok l hl
  obtain ⟨b, hb1, hb2, e3⟩ := enc_ok hp
  obtain ⟨p, hp1, hp2, e4⟩ := places_ok l hl
  have hx8 := pkB_len hp
  have hbB : bytesB b = true := by unfold bytesB; rw [hb2]; exact (Bool.true_and _).trans (decide_eq_true (by omega))
  have hall : ∀ x ∈ b, 0 ≤ x ∧ x ≤ 255 := fun x hx => of_decide_eq_true (List.all_eq_true.mp hb2 x hx)
  obtain ⟨g1, g2⟩ := scr_back b s hs hs1 hall
  have hbS : bytesB (scr s b) = true := by
    unfold bytesB
    rw [show (scr s b).all byteB = true from List.all_eq_true.mpr fun x hx => decide_eq_true (g1 x hx), scr_length]
    exact (Bool.true_and _).trans (decide_eq_true (by omega))
  obtain ⟨q0, q1⟩ := rd_range p hp1 hp2 0 (by omega)
  obtain ⟨r0, r1⟩ := rd_range p hp1 hp2 1 (by omega)
  have u := tmod_range (rd p ((0 : Nat) : Int)) 300 q0 (by omega)
  have v := tmod_range (rd p ((1 : Nat) : Int)) 300 r0 (by omega)
  obtain ⟨X, hX⟩ := Int.eq_ofNat_of_zero_le u.1
  obtain ⟨Y, hY⟩ := Int.eq_ofNat_of_zero_le v.1
  have hX' : Int.tmod (rd p 0) 300 = (X : Int) := hX
  have hY' : Int.tmod (rd p 1) 300 = (Y : Int) := hY
  have hu : X < 300 := by have := u.2; omega
  have hv : Y < 300 := by have := v.2; omega
  obtain ⟨c1, c2⟩ := st8_range X s hs hs1
  obtain ⟨n1, n2, n3⟩ := nx_table s hs hs1
  have hP := period_ev s hs hs1 1100000 (by omega)
  have h255 := after_ev s hs hs1 255 (by omega) 1100000 (by omega)
  have hA := after_ev s hs hs1 X (by omega) 1100000 (by omega)
  have hB := after_ev (st8 X s) c2 c1 Y (by omega) 1100000 (by omega)
  have hC := after_ev s hs hs1 (X + Y) (by omega) 1100000 (by omega)
  have hD := after_ev s hs hs1 1 (by omega) 1100000 (by omega)
  refine ⟨1100000, ?_⟩
  unfold laws_FnScrambles.f laws_big.f
  simp only [Option.bind_some]
  by_cases hbig : (l.length : Int) > 1048576
  · rw [decide_eq_true hbig, if_pos rfl]
  rw [decide_eq_false hbig, if_neg (by decide), e1 _ (by omega)]
  simp only [Option.bind_some]
  rw [e2 _ (by omega)]
  simp only [Option.bind_some]
  rw [e3 _ (by omega)]
  simp only [Option.bind_some]
  rw [scr_ev b hbB s hs hs1 _ (by omega)]
  simp only [Option.bind_some]
  rw [e4 _ (by omega)]
  simp only [Option.bind_some]
  rw [if_pos (by omega), if_pos (by omega), scr_length, if_pos rfl, scr_ev (scr s b) hbS s hs hs1 _ (by omega)]
  simp only [Option.bind_some]
  rw [g2, sameInts_ev b b (by omega) _ (by omega)]
  simp only [Option.bind_some]
  rw [if_pos (by simp), hP]
  simp only [Option.bind_some]
  rw [if_pos (by simp), show (255 : Int) = ((255 : Nat) : Int) from rfl, h255]
  simp only [Option.bind_some]
  rw [st_table s hs hs1, if_pos (by simp), hX', hY', hA]
  simp only [Option.bind_some]
  rw [hB, show wrap64 ((X : Int) + (Y : Int)) = ((X + Y : Nat) : Int) by rw [wrap_id _ (by omega)]; omega, hC]
  simp only [Option.bind_some]
  rw [st8_add, if_pos (by simp), show (1 : Int) = ((1 : Nat) : Int) from rfl, hD]
  simp only [Option.bind_some]
  rw [n1]
  simp [st8]

end Go.Proofs.Ytojipnenoiiadaa.Pure
