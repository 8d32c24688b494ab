/- The statement FnExactTakeFrame over whole numbers and lists of such: the program and the reference take a row of bytes in alike, neither changes what it is given, and the program's answer shares no memory with its arguments or with the answer of another call. What is larger than the law's own bound is let by, as the law itself does. -/
import Derived.Test.YtnonmppmiagmiaaPFnExactTakeFramex10
import Derived.Test.YtnonmppmiagmiaaVLists
namespace Go.Proofs.Ytnonmppmiagmiaa.Pure
set_option linter.unusedVariables false
set_option linter.unusedSimpArgs false
open Go.RowKit Go.Proofs.Ytnonmppmiagmiaa.PFnExactTakeFrame Go.Proofs.YtnonmppmiagmiaaW.PrintWords Go.Proofs.YtnonmppmiagmiaaW.PrintLast Go.Proofs.YtnonmppmiagmiaaW.PrintMore Go.Proofs.YtnonmppmiagmiaaX

/-- A row that is no longer than the law's bound. -/
def SmallE (x : List Int) : Prop := x.length ≤ 1048576
def FitE (x : List Int) : Prop := x.length ≤ 9223372036854775807
theorem rdL_lt (l : List (List Int)) (i : Nat) (h : i < l.length) : rd_L1 l (i : Int) = l[i] := by
  show l.getD i [] = l[i]
  simp [h]
theorem szIntS_eq (l : List Int) (left : Int) (h0 : 0 ≤ left) (h1 : left ≤ 1048576) (hl : l.length ≤ 9223372036854775807) : laws_szIntS.f l left = some (if left < l.length then -1 else left - l.length) := by
  unfold laws_szIntS.f
  rw [wrap_id _ (by omega)]
  by_cases h : left < l.length
  · rw [if_pos (by omega), if_pos h]
  · rw [if_neg (by omega), if_neg h]
theorem szE (x : List Int) (left : Int) (h0 : 0 ≤ left) (h1 : left ≤ 1048576) (hw : FitE x) : ∃ r, laws_szIntS.f x left = some r ∧ r ≤ left ∧ (0 ≤ r → SmallE x) := by
  unfold FitE at hw
  refine ⟨_, szIntS_eq x left h0 h1 hw, ?_, fun h => ?_⟩
  · split <;> omega
  · unfold SmallE
    split at h <;> omega
theorem szIntSS_l0 (l : List (List Int)) (hl : l.length ≤ 1048576) (hw : ∀ x ∈ l, FitE x) (d : Nat) : ∀ (i : Nat) (left : Int), 0 ≤ left → left ≤ 1048576 → i + d = l.length → ∃ r, (∀ k, d < k → laws_szIntSS.l0 k l left (i : Int) = some r) ∧ r ≤ left ∧ (0 ≤ r → ∀ x ∈ l.drop i, SmallE x) := by
  induction d with
  | zero =>
    intro i left h0 h1 hi
    refine ⟨left, fun k hk => ?_, Int.le_refl _, fun _ x hx => ?_⟩
    · obtain ⟨k, rfl⟩ : ∃ m, k = m + 1 := ⟨k - 1, by omega⟩
      simp only [laws_szIntSS.l0]
      rw [if_neg (show ¬ (i : Int) < (l.length : Int) by omega)]
    · rw [drop_all l i (by omega)] at hx; cases hx
  | succ d ih =>
    intro i left h0 h1 hi
    have hlt : i < l.length := by omega
    obtain ⟨q, e, hq1, hq2⟩ := szE l[i] left h0 h1 (hw _ (List.getElem_mem hlt))
    by_cases hq : q < 0
    · refine ⟨-1, fun k hk => ?_, by omega, fun h => by omega⟩
      obtain ⟨k, rfl⟩ : ∃ m, k = m + 1 := ⟨k - 1, by omega⟩
      simp only [laws_szIntSS.l0]
      rw [if_pos (show (i : Int) < (l.length : Int) by omega), if_pos (show (0 : Int) ≤ (i : Int) by omega), rdL_lt l i hlt, e]
      simp only [Option.bind_some]
      rw [if_pos hq]
    · obtain ⟨r, hr1, hr2, hr3⟩ := ih (i + 1) q (by omega) (by omega) (by omega)
      refine ⟨r, fun k hk => ?_, by omega, fun h x hx => ?_⟩
      · obtain ⟨k, rfl⟩ : ∃ m, k = m + 1 := ⟨k - 1, by omega⟩
        simp only [laws_szIntSS.l0]
        rw [if_pos (show (i : Int) < (l.length : Int) by omega), if_pos (show (0 : Int) ≤ (i : Int) by omega), rdL_lt l i hlt, e]
        simp only [Option.bind_some]
        rw [if_neg hq, wrap_succ i (by omega)]
        exact hr1 k (by omega)
      · rw [drop_cons l i hlt] at hx
        rcases List.mem_cons.1 hx with rfl | hx
        · exact hq2 (by omega)
        · exact hr3 h x hx
theorem szIntSS_ev (l : List (List Int)) (left : Int) (h0 : 0 ≤ left) (h1 : left ≤ 1048576) (hm : l.length ≤ 9223372036854775807) (hw : ∀ x ∈ l, FitE x) : ∃ r, (∀ k, 1048577 ≤ k → laws_szIntSS.f k l left = some r) ∧ r ≤ left ∧ (0 ≤ r → l.length ≤ 1048576 ∧ ∀ x ∈ l, SmallE x) := by
  unfold laws_szIntSS.f
  rw [wrap_id _ (by omega)]
  by_cases h : left - (l.length : Int) < 0
  · refine ⟨-1, fun k hk => ?_, by omega, fun h => by omega⟩
    rw [if_pos h]
  · obtain ⟨r, hr1, hr2, hr3⟩ := szIntSS_l0 l (by omega) hw l.length 0 (left - (l.length : Int)) (by omega) (by omega) (by omega)
    refine ⟨r, fun k hk => ?_, by omega, fun h => ⟨by omega, fun x hx => hr3 h x (by simpa using hx)⟩⟩
    rw [if_neg h]
    exact hr1 k (by omega)
theorem toIntS_l0 (l : List Int) (hb : l.length ≤ 1048576) (d : Nat) : ∀ (x : List Int) (i : Nat), x.length = l.length → x.take i = l.take i → i + d = l.length → ∀ k, d < k → laws_toIntS.l0 k l x (i : Int) = some l := by
  induction d with
  | zero =>
    intro x i hx ht hi k hk
    obtain ⟨k, rfl⟩ : ∃ m, k = m + 1 := ⟨k - 1, by omega⟩
    simp only [laws_toIntS.l0]
    rw [if_neg (show ¬ (i : Int) < (l.length : Int) by omega), fill_end x l i hx (by omega) ht]
  | succ d ih =>
    intro x i hx ht hi k hk
    obtain ⟨k, rfl⟩ : ∃ m, k = m + 1 := ⟨k - 1, by omega⟩
    simp only [laws_toIntS.l0]
    rw [if_pos (show (i : Int) < (l.length : Int) by omega), if_pos (show (0 : Int) ≤ (i : Int) by omega), if_pos (show (i : Int) < (x.length : Int) by omega), wrap_succ i (by omega), toNat_nat, rd_lt l i (by omega)]
    exact ih _ (i + 1) (by simp [hx]) (fill_step x l i _ (by omega) (by omega) ht rfl) (by omega) k (by omega)
theorem toIntS_ev (l : List Int) (hb : l.length ≤ 1048576) : ∀ k, l.length < k → laws_toIntS.f k l = some l := by
  intro k hk
  unfold laws_toIntS.f
  rw [if_pos (by omega), if_pos (by omega)]
  exact toIntS_l0 l hb l.length _ 0 (by simp) (by simp) (by omega) k hk
theorem toIntSS_l0 (l : List (List Int)) (hb : l.length ≤ 1048576) (he : ∀ x ∈ l, SmallE x) (d : Nat) : ∀ (x : List (List Int)) (i : Nat), x.length = l.length → x.take i = l.take i → i + d = l.length → ∀ k, 1048577 + d < k → laws_toIntSS.l0 k l x (i : Int) = some l := by
  induction d with
  | zero =>
    intro x i hx ht hi k hk
    obtain ⟨k, rfl⟩ : ∃ m, k = m + 1 := ⟨k - 1, by omega⟩
    simp only [laws_toIntSS.l0]
    rw [if_neg (show ¬ (i : Int) < (l.length : Int) by omega), fill_end x l i hx (by omega) ht]
  | succ d ih =>
    intro x i hx ht hi k hk
    obtain ⟨k, rfl⟩ : ∃ m, k = m + 1 := ⟨k - 1, by omega⟩
    have hlt : i < l.length := by omega
    simp only [laws_toIntSS.l0]
    rw [if_pos (show (i : Int) < (l.length : Int) by omega), if_pos (show (0 : Int) ≤ (i : Int) by omega), rdL_lt l i hlt, toIntS_ev l[i] (he _ (List.getElem_mem hlt)) k (by have := (he _ (List.getElem_mem hlt)); unfold SmallE at this; omega)]
    simp only [Option.bind_some]
    rw [if_pos (show (i : Int) < (x.length : Int) by omega), wrap_succ i (by omega), toNat_nat]
    exact ih _ (i + 1) (by simp [hx]) (fill_step x l i _ (by omega) (by omega) ht rfl) (by omega) k (by omega)
theorem toIntSS_ev (l : List (List Int)) (hb : l.length ≤ 1048576) (he : ∀ x ∈ l, SmallE x) : ∀ k, 1048577 + l.length < k → laws_toIntSS.f k l = some l := by
  intro k hk
  unfold laws_toIntSS.f
  rw [if_pos (by omega), if_pos (by omega)]
  exact toIntSS_l0 l hb he l.length _ 0 (by simp) (by simp) (by omega) k hk
theorem eqIntS_l0 (a b : List Int) (hl : a.length = b.length) (hb : a.length < 9223372036854775807) (d : Nat) : ∀ (i : Nat), i + d = a.length → ∀ k, d < k → laws_eqIntS.l0 k a b (i : Int) = some (decide (a.drop i = b.drop i)) := by
  induction d with
  | zero =>
    intro i hi k hk
    obtain ⟨k, rfl⟩ : ∃ m, k = m + 1 := ⟨k - 1, by omega⟩
    simp only [laws_eqIntS.l0]
    rw [if_neg (show ¬ (i : Int) < (a.length : Int) by omega), drop_all a i (by omega), drop_all b i (by omega)]
    simp
  | succ d ih =>
    intro i hi k hk
    obtain ⟨k, rfl⟩ : ∃ m, k = m + 1 := ⟨k - 1, by omega⟩
    simp only [laws_eqIntS.l0]
    rw [if_pos (show (i : Int) < (a.length : Int) by omega), if_pos (show (0 : Int) ≤ (i : Int) by omega), if_pos (show (i : Int) < (b.length : Int) by omega)]
    by_cases he : rd a (i : Int) = rd b (i : Int)
    · rw [if_pos he, wrap_succ i (by omega), ih (i + 1) (by omega) k (by omega)]
      congr 1
      rw [decide_eq_decide, drop_eq_iff a b i (by omega) (by omega)]
      exact ⟨fun h => ⟨he, h⟩, fun h => h.2⟩
    · rw [if_neg he]
      congr 1
      symm
      rw [decide_eq_false_iff_not, drop_eq_iff a b i (by omega) (by omega)]
      exact fun h => he h.1
theorem eqIntS_ev (a b : List Int) (hb : a.length < 9223372036854775807) : ∀ k, a.length < k → laws_eqIntS.f k a b = some (decide (a = b)) := by
  intro k hk
  unfold laws_eqIntS.f
  by_cases hl : a.length = b.length
  · rw [if_pos (by omega)]
    exact eqIntS_l0 a b hl hb a.length 0 (by omega) k hk
  · rw [if_neg (by omega), decide_eq_false (fun h => hl (by rw [h]))]
theorem eqIntSS_l0 (a b : List (List Int)) (hl : a.length = b.length) (hb : a.length ≤ 1048576) (he : ∀ x ∈ a, SmallE x) (d : Nat) : ∀ (i : Nat), i + d = a.length → ∀ k, 1048577 + d < k → laws_eqIntSS.l0 k a b (i : Int) = some (decide (a.drop i = b.drop i)) := by
  induction d with
  | zero =>
    intro i hi k hk
    obtain ⟨k, rfl⟩ : ∃ m, k = m + 1 := ⟨k - 1, by omega⟩
    simp only [laws_eqIntSS.l0]
    rw [if_neg (show ¬ (i : Int) < (a.length : Int) by omega), drop_all a i (by omega), drop_all b i (by omega)]
    simp
  | succ d ih =>
    intro i hi k hk
    obtain ⟨k, rfl⟩ : ∃ m, k = m + 1 := ⟨k - 1, by omega⟩
    have h1 : i < a.length := by omega
    have h2 : i < b.length := by omega
    simp only [laws_eqIntSS.l0]
    rw [if_pos (show (i : Int) < (a.length : Int) by omega), if_pos (show (0 : Int) ≤ (i : Int) by omega), if_pos (show (i : Int) < (b.length : Int) by omega), rdL_lt a i h1, rdL_lt b i h2, eqIntS_ev a[i] b[i] (by have := (he _ (List.getElem_mem h1)); unfold SmallE at this; omega) k (by have := (he _ (List.getElem_mem h1)); unfold SmallE at this; omega)]
    simp only [Option.bind_some]
    by_cases hq : a[i] = b[i]
    · rw [if_pos (decide_eq_true hq), wrap_succ i (by omega), ih (i + 1) (by omega) k (by omega)]
      congr 1
      rw [decide_eq_decide, drop_cons a i h1, drop_cons b i h2, List.cons.injEq]
      exact ⟨fun h => ⟨hq, h⟩, fun h => h.2⟩
    · rw [if_neg (by simp [hq])]
      congr 1
      symm
      rw [decide_eq_false_iff_not, drop_cons a i h1, drop_cons b i h2, List.cons.injEq]
      exact fun h => hq h.1
theorem eqIntSS_ev (a b : List (List Int)) (hb : a.length ≤ 1048576) (he : ∀ x ∈ a, SmallE x) : ∀ k, 1048577 + a.length < k → laws_eqIntSS.f k a b = some (decide (a = b)) := by
  intro k hk
  unfold laws_eqIntSS.f
  by_cases hl : a.length = b.length
  · rw [if_pos (by omega)]
    exact eqIntSS_l0 a b hl hb he a.length 0 (by omega) k hk
  · rw [if_neg (by omega), decide_eq_false (fun h => hl (by rw [h]))]
theorem within_eq (a l m : Int) : impl_within.f a l m = some (decide (l ≤ a ∧ a ≤ m)) := by
  unfold impl_within.f
  by_cases h : a ≥ l
  · have h' : l ≤ a := h
    rw [if_pos h]; simp [h']
  · have h' : ¬ l ≤ a := h
    rw [if_neg h]; simp [h']
theorem l01In_eq (a l m : Int) : spec_l01In.f a l m = some (decide (l ≤ a ∧ a ≤ m)) := by
  unfold spec_l01In.f
  by_cases h : a ≥ l
  · have h' : l ≤ a := h
    rw [if_pos h]; simp [h']
  · have h' : ¬ l ≤ a := h
    rw [if_neg h]; simp [h']
theorem any_not {α : Type} (l : List α) (p : α → Bool) : (!l.any fun x => !p x) = l.all p := by
  induction l with
  | nil => rfl
  | cons a l ih => rw [List.any_cons, List.all_cons, Bool.not_or, ih, Bool.not_not]
def byteB (x : Int) : Bool := decide (0 ≤ x ∧ x ≤ 255)
def bytesB (l : List Int) : Bool := l.all byteB && decide (l.length ≤ 40)
theorem sAreBytes_l0 (l : List (Int)) (hl : l.length ≤ 1048580) (d : Nat) : ∀ i : Nat, i + d = l.length → ∀ k, 0 + d < k → spec_AreBytes.l0 k l (i : Int) = some ((l.drop i).all byteB && decide (l.length ≤ 40)) := by
  induction d with
  | zero =>
    intro i hi k hk
    obtain ⟨k, rfl⟩ : ∃ m, k = m + 1 := ⟨k - 1, by omega⟩
    simp only [spec_AreBytes.l0]
    rw [if_neg (show ¬ (i : Int) < (l.length : Int) by omega), drop_all l i (by omega)]
    simp; omega
  | succ d ih =>
    intro i hi k hk
    obtain ⟨k, rfl⟩ : ∃ m, k = m + 1 := ⟨k - 1, by omega⟩
    have hlt : i < l.length := by omega
    simp only [spec_AreBytes.l0]
    rw [if_pos (show (i : Int) < (l.length : Int) by omega), if_pos (show (0 : Int) ≤ (i : Int) by omega), rd_lt l i hlt, show spec_l01In.f l[i] 0 255 = some (byteB l[i]) from l01In_eq _ _ _]
    simp only [Option.bind_some]
    by_cases hp : byteB l[i] = true
    · rw [if_pos hp, wrap_succ i (by omega), ih (i + 1) (by omega) k (by omega), drop_cons l i hlt, List.all_cons, hp, Bool.true_and]
    · rw [if_neg hp, drop_cons l i hlt, List.all_cons, Bool.eq_false_iff.mpr hp, Bool.false_and, Bool.false_and]
theorem sAreBytes_ev (l : List Int) (hl : l.length ≤ 1048580) (k : Nat) (hk : l.length < k) : spec_AreBytes.f k l = some (bytesB l) := sAreBytes_l0 l hl l.length 0 (by omega) k (by omega)
theorem notByte_eq (x : Int) : impl_AreBytes_1.f x = some (!byteB x) := by
  unfold impl_AreBytes_1.f impl_isByte.f
  rw [within_eq]
  rfl
theorem cBytes_l0 (l : List (Int)) (hl : l.length ≤ 1048580) (d : Nat) : ∀ i : Nat, i + d = l.length → ∀ k, 0 + d < k → ∃ r, slices_IndexFunc_int_int__impl_AreBytes_1.l0 k l (l.length : Int) (i : Int) = some r ∧ decide (r ≥ 0) = (l.drop i).any (fun x => !byteB x) := by
  induction d with
  | zero =>
    intro i hi k hk
    obtain ⟨k, rfl⟩ : ∃ m, k = m + 1 := ⟨k - 1, by omega⟩
    refine ⟨-1, ?_, ?_⟩
    · simp only [slices_IndexFunc_int_int__impl_AreBytes_1.l0]
      rw [if_neg (show ¬ (i : Int) < (l.length : Int) by omega)]
    · rw [drop_all l i (by omega)]; rfl
  | succ d ih =>
    intro i hi k hk
    obtain ⟨k, rfl⟩ : ∃ m, k = m + 1 := ⟨k - 1, by omega⟩
    have hlt : i < l.length := by omega
    simp only [slices_IndexFunc_int_int__impl_AreBytes_1.l0]
    rw [if_pos (show (i : Int) < (l.length : Int) by omega), if_pos (show (0 : Int) ≤ (i : Int) by omega), if_pos (show (i : Int) < (l.length : Int) by omega), rd_lt l i hlt, notByte_eq l[i]]
    simp only [Option.bind_some]
    by_cases hp : (fun x => !byteB x) l[i] = true
    · rw [if_pos hp]
      exact ⟨_, rfl, by rw [any_drop_yes l i hlt _ hp, decide_eq_true (by omega)]⟩
    · rw [if_neg hp, wrap_succ i (by omega)]
      obtain ⟨r, h1, h2⟩ := ih (i + 1) (by omega) k (by omega)
      exact ⟨r, h1, by rw [h2, any_drop_no l i hlt _ hp]⟩
theorem cBytes_ev (l : List (Int)) (hl : l.length ≤ 1048580) (k : Nat) (hk : 0 + l.length < k) : slices_ContainsFunc_int_int__impl_AreBytes_1.f k l = some (l.any (fun x => !byteB x)) := by
  obtain ⟨r, h1, h2⟩ := cBytes_l0 l hl l.length 0 (by omega) k hk
  unfold slices_ContainsFunc_int_int__impl_AreBytes_1.f slices_IndexFunc_int_int__impl_AreBytes_1.f
  have c0 : ((0 : Nat) : Int) = 0 := rfl
  rw [c0] at h1
  rw [h1]
  simp only [Option.bind_some]
  rw [h2]; rfl
theorem iAreBytes_ev (l : List Int) (k : Nat) (hk : 40 < k) : impl_AreBytes.f k l = some (bytesB l) := by
  unfold impl_AreBytes.f bytesB
  by_cases h : (l.length : Int) ≤ 40
  · rw [if_pos h, cBytes_ev l (by omega) k (by omega)]
    simp only [Option.bind_some]
    rw [any_not, decide_eq_true (show l.length ≤ 40 by omega), Bool.and_true]
  · rw [if_neg h, decide_eq_false (show ¬ l.length ≤ 40 by omega), Bool.and_false]
def seqB (x : Int) : Bool := decide (0 ≤ x ∧ x ≤ 15)
def recB (a : Int) (l : List (List Int)) : Bool := l.all bytesB && (seqB a && decide (l.length ≤ 1000))
theorem sIsSeq_eq (a : Int) : spec_IsSeq.f a = some (seqB a) := by
  unfold spec_IsSeq.f; rw [l01In_eq]; rfl
theorem iIsSeq_eq (a : Int) : impl_IsSeq.f a = some (seqB a) := by
  unfold impl_IsSeq.f; rw [within_eq]; rfl
theorem sReceiverOk_l0 (a : Int) (l : List (List Int)) (hl : l.length ≤ 1048576) (he : ∀ x ∈ l, SmallE x) (d : Nat) : ∀ i : Nat, i + d = l.length → ∀ k, 1048577 + d < k → spec_ReceiverOk.l0 k (i : Int) a l = some ((l.drop i).all bytesB && (seqB a && decide (l.length ≤ 1000))) := by
  induction d with
  | zero =>
    intro i hi k hk
    obtain ⟨k, rfl⟩ : ∃ m, k = m + 1 := ⟨k - 1, by omega⟩
    simp only [spec_ReceiverOk.l0]
    rw [if_neg (show ¬ (i : Int) < (l.length : Int) by omega), drop_all l i (by omega), sIsSeq_eq]
    simp only [Option.bind_some, List.all_nil, Bool.true_and]
    cases seqB a <;> simp <;> omega
  | succ d ih =>
    intro i hi k hk
    obtain ⟨k, rfl⟩ : ∃ m, k = m + 1 := ⟨k - 1, by omega⟩
    have hlt : i < l.length := by omega
    have hs := he _ (List.getElem_mem hlt)
    unfold SmallE at hs
    simp only [spec_ReceiverOk.l0]
    rw [if_pos (show (i : Int) < (l.length : Int) by omega), if_pos (show (0 : Int) ≤ (i : Int) by omega), rdL_lt l i hlt, sAreBytes_ev l[i] (by omega) k (by omega)]
    simp only [Option.bind_some]
    by_cases hp : bytesB l[i] = true
    · rw [if_pos hp, wrap_succ i (by omega), ih (i + 1) (by omega) k (by omega), drop_cons l i hlt, List.all_cons, hp, Bool.true_and]
    · rw [if_neg hp, drop_cons l i hlt, List.all_cons, Bool.eq_false_iff.mpr hp, Bool.false_and, Bool.false_and]
theorem sReceiverOk_ev (a : Int) (l : List (List Int)) (hl : l.length ≤ 1048576) (he : ∀ x ∈ l, SmallE x) (k : Nat) (hk : 2097155 < k) : spec_ReceiverOk.f k a l = some (recB a l) := sReceiverOk_l0 a l hl he l.length 0 (by omega) k (by omega)
theorem notBytes_eq (k : Nat) (hk : 40 < k) (x : List Int) : impl_areLists_1.f k x = some (!bytesB x) := by
  unfold impl_areLists_1.f
  rw [iAreBytes_ev x k hk]
  rfl
theorem cLists_l0 (l : List (List Int)) (hl : l.length ≤ 1048576) (d : Nat) : ∀ i : Nat, i + d = l.length → ∀ k, 41 + d < k → ∃ r, slices_IndexFunc_int_int__impl_areLists_1.l0 k l (l.length : Int) (i : Int) = some r ∧ decide (r ≥ 0) = (l.drop i).any (fun x => !bytesB x) := by
  induction d with
  | zero =>
    intro i hi k hk
    obtain ⟨k, rfl⟩ : ∃ m, k = m + 1 := ⟨k - 1, by omega⟩
    refine ⟨-1, ?_, ?_⟩
    · simp only [slices_IndexFunc_int_int__impl_areLists_1.l0]
      rw [if_neg (show ¬ (i : Int) < (l.length : Int) by omega)]
    · rw [drop_all l i (by omega)]; rfl
  | succ d ih =>
    intro i hi k hk
    obtain ⟨k, rfl⟩ : ∃ m, k = m + 1 := ⟨k - 1, by omega⟩
    have hlt : i < l.length := by omega
    simp only [slices_IndexFunc_int_int__impl_areLists_1.l0]
    rw [if_pos (show (i : Int) < (l.length : Int) by omega), if_pos (show (0 : Int) ≤ (i : Int) by omega), if_pos (show (i : Int) < (l.length : Int) by omega), rdL_lt l i hlt, notBytes_eq k (by omega) l[i]]
    simp only [Option.bind_some]
    by_cases hp : (fun x => !bytesB x) l[i] = true
    · rw [if_pos hp]
      exact ⟨_, rfl, by rw [any_drop_yes l i hlt _ hp, decide_eq_true (by omega)]⟩
    · rw [if_neg hp, wrap_succ i (by omega)]
      obtain ⟨r, h1, h2⟩ := ih (i + 1) (by omega) k (by omega)
      exact ⟨r, h1, by rw [h2, any_drop_no l i hlt _ hp]⟩
theorem cLists_ev (l : List (List Int)) (hl : l.length ≤ 1048576) (k : Nat) (hk : 41 + l.length < k) : slices_ContainsFunc_int_int__impl_areLists_1.f k l = some (l.any (fun x => !bytesB x)) := by
  obtain ⟨r, h1, h2⟩ := cLists_l0 l hl l.length 0 (by omega) k hk
  unfold slices_ContainsFunc_int_int__impl_areLists_1.f slices_IndexFunc_int_int__impl_areLists_1.f
  have c0 : ((0 : Nat) : Int) = 0 := rfl
  rw [c0] at h1
  rw [h1]
  simp only [Option.bind_some]
  rw [h2]; rfl
theorem iAreLists_ev (l : List (List Int)) (hl : l.length ≤ 1048576) (k : Nat) (hk : 1048620 < k) : impl_areLists.f k l = some (l.all bytesB) := by
  unfold impl_areLists.f
  rw [cLists_ev l hl k (by omega)]
  simp only [Option.bind_some]
  rw [any_not]
theorem iReceiverOk_ev (a : Int) (l : List (List Int)) (hl : l.length ≤ 1048576) (k : Nat) (hk : 1048620 < k) : impl_ReceiverOk.f k a l = some (recB a l) := by
  unfold impl_ReceiverOk.f recB
  rw [iIsSeq_eq]
  simp only [Option.bind_some]
  by_cases hs : seqB a = true
  · rw [if_pos hs, hs]
    by_cases h : (l.length : Int) ≤ 1000
    · rw [if_pos h, iAreLists_ev l hl k hk, decide_eq_true (show l.length ≤ 1000 by omega)]
      simp
    · rw [if_neg h, decide_eq_false (show ¬ l.length ≤ 1000 by omega)]
      simp
  · rw [if_neg hs, Bool.eq_false_iff.mpr hs]
    simp
theorem toReceiver_ev (a : Int) (l : List (List Int)) (hl : l.length ≤ 1048576) (he : ∀ x ∈ l, SmallE x) (k : Nat) (hk : 2097155 < k) : laws_toReceiver.f k a l = some (a, l) := by
  unfold laws_toReceiver.f
  rw [toIntSS_ev l hl he k (by omega)]
  rfl
theorem eqReceiver_ev (a : Int) (l : List (List Int)) (hl : l.length ≤ 1048576) (he : ∀ x ∈ l, SmallE x) (k : Nat) (hk : 2097155 < k) : laws_eqReceiver.f k a l a l = some true := by
  unfold laws_eqReceiver.f
  rw [if_pos rfl, eqIntSS_ev l l hl he k (by omega)]
  simp
theorem szReceiver_ev (a : Int) (l : List (List Int)) (left : Int) (h0 : 0 ≤ left) (h1 : left ≤ 1048576) (hm : l.length ≤ 9223372036854775807) (hw : ∀ x ∈ l, FitE x) : ∃ r, (∀ k, 1048577 ≤ k → laws_szReceiver.f k a l left = some r) ∧ r ≤ left ∧ (0 ≤ r → l.length ≤ 1048576 ∧ ∀ x ∈ l, SmallE x) := by
  obtain ⟨r, h2, h3, h4⟩ := szIntSS_ev l left h0 h1 hm hw
  by_cases h : r < 0
  · refine ⟨-1, fun k hk => ?_, by omega, fun h => by omega⟩
    unfold laws_szReceiver.f
    rw [h2 k hk]
    simp only [Option.bind_some]
    rw [if_pos h]
  · refine ⟨r, fun k hk => ?_, h3, h4⟩
    unfold laws_szReceiver.f
    rw [h2 k hk]
    simp only [Option.bind_some]
    rw [if_neg h]
theorem equal_l0 (a b : List Int) (hl : a.length = b.length) (hb : a.length < 9223372036854775807) (d : Nat) : ∀ (i : Nat), i + d = a.length → ∀ k, d < k → slices_Equal_int_int.l0 k a b (((a.length : Nat) : Int)) (i : Int) = some (decide (a.drop i = b.drop i)) := by
  induction d with
  | zero =>
    intro i hi k hk
    obtain ⟨k, rfl⟩ : ∃ m, k = m + 1 := ⟨k - 1, by omega⟩
    simp only [slices_Equal_int_int.l0]
    rw [if_neg (show ¬ (i : Int) < (a.length : Int) by omega), drop_all a i (by omega), drop_all b i (by omega)]
    simp
  | succ d ih =>
    intro i hi k hk
    obtain ⟨k, rfl⟩ : ∃ m, k = m + 1 := ⟨k - 1, by omega⟩
    simp only [slices_Equal_int_int.l0]
    rw [if_pos (show (i : Int) < (a.length : Int) by omega), if_pos (show (0 : Int) ≤ (i : Int) by omega), if_pos (show (i : Int) < (a.length : Int) by omega), if_pos (show (i : Int) < (b.length : Int) by omega)]
    by_cases he : rd a (i : Int) = rd b (i : Int)
    · rw [if_pos he, wrap_succ i (by omega), ih (i + 1) (by omega) k (by omega)]
      congr 1
      rw [decide_eq_decide, drop_eq_iff a b i (by omega) (by omega)]
      exact ⟨fun h => ⟨he, h⟩, fun h => h.2⟩
    · rw [if_neg he]
      congr 1
      symm
      rw [decide_eq_false_iff_not, drop_eq_iff a b i (by omega) (by omega)]
      exact fun h => he h.1
theorem equal_ev (a b : List Int) (hb : a.length < 9223372036854775807) : ∀ k, a.length < k → slices_Equal_int_int.f k a b = some (decide (a = b)) := by
  intro k hk
  unfold slices_Equal_int_int.f
  by_cases hl : a.length = b.length
  · rw [if_pos (by omega)]
    exact equal_l0 a b hl hb a.length 0 (by omega) k hk
  · rw [if_neg (by omega), decide_eq_false (fun h => hl (by rw [h]))]
theorem ofInt_64g (a : Nat) (ha : a < 131072) : (BitVec.ofInt 64 (a : Int)).toNat = a := by
  rw [BitVec.toNat_ofInt]; omega
theorem i64_xor_natg (a b : Nat) (ha : a < 131072) (hb : b < 131072) : Go.bits .xor .i64 (a : Int) (b : Int) = ((a ^^^ b : Nat) : Int) := by
  have hx : a ^^^ b < 2 ^ 17 := Nat.xor_lt_two_pow (by omega) (by omega)
  show IntKind.i64.wrap ((BitVec.ofInt 64 (a : Int) ^^^ BitVec.ofInt 64 (b : Int)).toNat : Int) = _
  rw [BitVec.toNat_xor, ofInt_64g a ha, ofInt_64g b hb, IntKind.wrap_i64]
  omega
theorem xor_small (a b : Int) (ha : 0 ≤ a ∧ a ≤ 65535) (hb : 0 ≤ b ∧ b ≤ 65535) : 0 ≤ Go.bits .xor .i64 a b ∧ Go.bits .xor .i64 a b ≤ 65535 := by
  obtain ⟨x, rfl⟩ := Int.eq_ofNat_of_zero_le ha.1
  obtain ⟨y, rfl⟩ := Int.eq_ofNat_of_zero_le hb.1
  have hx : x ^^^ y < 2 ^ 16 := Nat.xor_lt_two_pow (by omega) (by omega)
  rw [i64_xor_natg x y (by omega) (by omega)]
  omega
theorem xor_top (a : Int) (ha : 65536 ≤ a ∧ a ≤ 131071) : 0 ≤ Go.bits .xor .i64 a 69665 ∧ Go.bits .xor .i64 a 69665 ≤ 65535 := by
  obtain ⟨x, rfl⟩ := Int.eq_ofNat_of_zero_le (show 0 ≤ a by omega)
  have hx : x ^^^ 69665 < 2 ^ 16 := by
    apply Nat.lt_pow_two_of_testBit
    intro i hi
    rw [Nat.testBit_xor]
    by_cases h : i = 16
    · subst h
      have h1 : x.testBit 16 = true := by rw [Nat.testBit_eq_decide_div_mod_eq]; exact decide_eq_true (by omega)
      rw [h1]
      decide
    · have hp : 2 ^ 17 ≤ 2 ^ i := Nat.pow_le_pow_right (by omega) (by omega)
      rw [Nat.testBit_lt_two_pow (show x < 2 ^ i by omega), Nat.testBit_lt_two_pow (show 69665 < 2 ^ i by omega)]
      rfl
  rw [show (69665 : Int) = ((69665 : Nat) : Int) from rfl, i64_xor_natg x 69665 (by omega) (by omega)]
  omega
/-- The check's steps. -/
def ckb : Nat → Int → Int
  | 0, s => s
  | d + 1, s => ckb d (if wrap64 (s * 2) > 65535 then Go.bits .xor .i64 (wrap64 (s * 2)) 69665 else wrap64 (s * 2))
def ck : Int → List Int → Int
  | s, [] => s
  | s, b :: r => ck (ckb 8 (Go.bits .xor .i64 s (wrap64 (b * 256)))) r
theorem ckb_range (d : Nat) : ∀ s : Int, 0 ≤ s ∧ s ≤ 65535 → 0 ≤ ckb d s ∧ ckb d s ≤ 65535 := by
  induction d with
  | zero => intro s h; exact h
  | succ d ih =>
    intro s h
    have hw : wrap64 (s * 2) = s * 2 := wrap_id _ (by omega)
    rw [ckb, hw]
    apply ih
    by_cases h1 : s * 2 > 65535
    · rw [if_pos h1]; exact xor_top _ (by omega)
    · rw [if_neg h1]; omega
theorem ck_range (l : List Int) : ∀ s : Int, 0 ≤ s ∧ s ≤ 65535 → l.all byteB = true → 0 ≤ ck s l ∧ ck s l ≤ 65535 := by
  induction l with
  | nil => intro s h _; exact h
  | cons b r ih =>
    intro s h hb
    rw [List.all_cons, Bool.and_eq_true] at hb
    have hb0 : 0 ≤ b ∧ b ≤ 255 := of_decide_eq_true hb.1
    have hw : wrap64 (b * 256) = b * 256 := wrap_id _ (by omega)
    rw [ck, hw]
    exact ih _ (ckb_range 8 _ (xor_small _ _ h (by omega))) hb.2
theorem iCheck_l1 (l : List Int) (n i : Int) (d : Nat) : ∀ (j : Nat) (s : Int), j + d = 8 → ∀ k, impl_CheckOf.l1 (k + d + 1) s l n i (j : Int) = impl_CheckOf.l0 k (ckb d s) l n (wrap64 (i + 1)) := by
  induction d with
  | zero =>
    intro j s hj k
    simp only [impl_CheckOf.l1]
    rw [if_neg (by omega)]
    rfl
  | succ d ih =>
    intro j s hj k
    rw [show k + (d + 1) + 1 = (k + d + 1) + 1 from rfl]
    simp only [impl_CheckOf.l1]
    rw [if_pos (show (j : Int) < 8 by omega), wrap_succ j (by omega), ckb]
    by_cases h : wrap64 (s * 2) > 65535
    · rw [if_pos h, if_pos h]; exact ih (j + 1) _ (by omega) k
    · rw [if_neg h, if_neg h]; exact ih (j + 1) _ (by omega) k
theorem iCheck_l0 (l : List Int) (hl : l.length ≤ 1048576) (d : Nat) : ∀ (i : Nat) (s : Int), i + d = l.length → ∀ k, 10 * d < k → impl_CheckOf.l0 k s l (l.length : Int) (i : Int) = some (ck s (l.drop i)) := by
  induction d with
  | zero =>
    intro i s hi k hk
    obtain ⟨k, rfl⟩ : ∃ m, k = m + 1 := ⟨k - 1, by omega⟩
    simp only [impl_CheckOf.l0]
    rw [if_neg (by omega), drop_all l i (by omega)]
    rfl
  | succ d ih =>
    intro i s hi k hk
    obtain ⟨k, rfl⟩ : ∃ m, k = m + 8 + 1 + 1 := ⟨k - 10, by omega⟩
    have hlt : i < l.length := by omega
    rw [impl_CheckOf.l0]
    rw [if_pos (by omega), if_pos (by omega), if_pos (by omega), rd_lt l i hlt]
    rw [show (0 : Int) = ((0 : Nat) : Int) from rfl, iCheck_l1 l (l.length : Int) (i : Int) 8 0 _ (by omega) k, wrap_succ i (by omega), ih (i + 1) _ (by omega) k (by omega), drop_cons l i hlt]
    rfl
theorem iCheck_ev (l : List Int) (h : bytesB l = true) (k : Nat) (hk : 1000 < k) : impl_CheckOf.f k l = some (ck 65535 l) := by
  have h40 : l.length ≤ 40 := by unfold bytesB at h; simp at h; exact h.2
  unfold impl_CheckOf.f
  rw [iAreBytes_ev l k (by omega), h]
  simp only [Option.bind_some, if_true]
  exact iCheck_l0 l (by omega) l.length 0 _ (by omega) k (by omega)
theorem clone_ev (l : List Int) (hl : l.length ≤ 1048580) : slices_Clone_int_int.f l = some l := by
  unfold slices_Clone_int_int.f
  simp only [Option.bind_some, List.nil_append, List.length_nil]
  rw [if_pos (by omega)]
/-- Bytes with their check behind them. -/
def addCk (l : List Int) : List Int := l ++ [ck 65535 l / 256, ck 65535 l % 256]
theorem split_ev (c : Int) (h : 0 ≤ c ∧ c ≤ 65535) : impl_SplitWord.f c = some (c / 256, c % 256) := by
  unfold impl_SplitWord.f impl_isWord.f
  rw [within_eq, decide_eq_true h]
  simp only [Option.bind_some, if_true]
  rw [Int.tdiv_eq_ediv_of_nonneg h.1, Int.tmod_eq_emod_of_nonneg h.1, wrap_id _ (by omega)]
theorem bytesB_iff (l : List Int) : bytesB l = true ↔ l.all byteB = true ∧ l.length ≤ 40 := by
  unfold bytesB
  rw [Bool.and_eq_true, decide_eq_true_eq]
theorem iAddCheck_ev (l : List Int) (hl : l.length ≤ 1048580) (k : Nat) (hk : 1100 < k) : impl_AddCheck.f k l = some (if bytesB l = true ∧ l.length ≤ 38 then addCk l else []) := by
  obtain ⟨k, rfl⟩ : ∃ m, k = m + 1 := ⟨k - 1, by omega⟩
  unfold impl_AddCheck.f
  rw [iAreBytes_ev l _ (by omega)]
  simp only [Option.bind_some, impl_AddCheck.j0]
  by_cases hb : bytesB l = true
  · rw [if_pos hb]
    by_cases h38 : (l.length : Int) > 38
    · rw [decide_eq_true h38, if_pos rfl, if_neg (by omega)]
    · have hc := ck_range l 65535 (by omega) ((bytesB_iff l).1 hb).1
      rw [decide_eq_false h38, if_neg (by decide), if_pos ⟨hb, by omega⟩, iCheck_ev l hb _ (by omega)]
      simp only [Option.bind_some]
      rw [split_ev _ hc]
      simp only [Option.bind_some]
      rw [clone_ev l hl]
      simp only [Option.bind_some]
      rw [if_pos (by simp; omega)]
      rfl
  · rw [if_neg hb, if_pos trivial, if_neg (fun h => hb h.1)]
theorem sCheck_l1 (l : List Int) (i : Int) (d : Nat) : ∀ (j : Nat) (s : Int), j + d = 8 → ∀ k, spec_CheckOf.l1 (k + d + 1) l s i (j : Int) = spec_CheckOf.l0 k l (ckb d s) (wrap64 (i + 1)) := by
  induction d with
  | zero =>
    intro j s hj k
    simp only [spec_CheckOf.l1]
    rw [if_neg (by omega)]
    rfl
  | succ d ih =>
    intro j s hj k
    rw [show k + (d + 1) + 1 = (k + d + 1) + 1 from rfl]
    simp only [spec_CheckOf.l1]
    rw [if_pos (show (j : Int) < 8 by omega), wrap_succ j (by omega), ckb]
    by_cases h : wrap64 (s * 2) > 65535
    · rw [if_pos h, if_pos h]; exact ih (j + 1) _ (by omega) k
    · rw [if_neg h, if_neg h]; exact ih (j + 1) _ (by omega) k
theorem sCheck_l0 (l : List Int) (hl : l.length ≤ 1048576) (d : Nat) : ∀ (i : Nat) (s : Int), i + d = l.length → ∀ k, 10 * d < k → spec_CheckOf.l0 k l s (i : Int) = some (ck s (l.drop i)) := by
  induction d with
  | zero =>
    intro i s hi k hk
    obtain ⟨k, rfl⟩ : ∃ m, k = m + 1 := ⟨k - 1, by omega⟩
    simp only [spec_CheckOf.l0]
    rw [if_neg (by omega), drop_all l i (by omega)]
    rfl
  | succ d ih =>
    intro i s hi k hk
    obtain ⟨k, rfl⟩ : ∃ m, k = m + 8 + 1 + 1 := ⟨k - 10, by omega⟩
    have hlt : i < l.length := by omega
    rw [spec_CheckOf.l0]
    rw [if_pos (by omega), if_pos (by omega), rd_lt l i hlt]
    rw [show (0 : Int) = ((0 : Nat) : Int) from rfl, sCheck_l1 l (i : Int) 8 0 _ (by omega) k, wrap_succ i (by omega), ih (i + 1) _ (by omega) k (by omega), drop_cons l i hlt]
    rfl
theorem sCheck_ev (l : List Int) (h : bytesB l = true) (k : Nat) (hk : 1000 < k) : spec_CheckOf.f k l = some (ck 65535 l) := by
  have h40 : l.length ≤ 40 := by unfold bytesB at h; simp at h; exact h.2
  unfold spec_CheckOf.f
  rw [sAreBytes_ev l (by omega) k (by omega), h]
  simp only [Option.bind_some, if_true]
  exact sCheck_l0 l (by omega) l.length 0 _ (by omega) k (by omega)
/-- A row of bytes that ends with the check of what stands before. -/
def takeOk (l : List Int) : Prop := 2 ≤ l.length ∧ bytesB l = true ∧ addCk (l.take (l.length - 2)) = l
instance (l : List Int) : Decidable (takeOk l) := by unfold takeOk; infer_instance
def tcR (l : List Int) : List Int × Bool := if takeOk l then (l.take (l.length - 2), true) else ([], false)
theorem bytesB_take (l : List Int) (n : Nat) (h : bytesB l = true) : bytesB (l.take n) = true := by
  rw [bytesB_iff] at h ⊢
  refine ⟨List.all_eq_true.mpr fun x hx => List.all_eq_true.mp h.1 x (List.mem_of_mem_take hx), ?_⟩
  rw [List.length_take]
  omega
theorem iTakeCheck_ev (l : List Int) (hl : l.length ≤ 1048576) (k : Nat) (hk : 1200 < k) : impl_TakeCheck.f k l = some (tcR l) := by
  unfold impl_TakeCheck.f tcR
  have hw : wrap64 ((l.length : Int) - 2) = (l.length : Int) - 2 := wrap_id _ (by omega)
  rw [hw]
  by_cases h2 : (l.length : Int) - 2 < 0
  · rw [if_pos h2, if_neg (fun h => by have := h.1; omega)]
  rw [if_neg h2, iAreBytes_ev l k (by omega)]
  simp only [Option.bind_some]
  by_cases hb : bytesB l = true
  · have hn : ((l.length : Int) - 2).toNat = l.length - 2 := by omega
    have h40 := ((bytesB_iff l).1 hb).2
    rw [if_pos hb, if_pos (by omega), if_pos (by omega), hn, iAddCheck_ev (l.take (l.length - 2)) (by rw [List.length_take]; omega) k (by omega)]
    simp only [Option.bind_some]
    rw [if_pos ⟨bytesB_take l _ hb, by rw [List.length_take]; omega⟩, equal_ev _ _ (by simp only [addCk, List.length_append, List.length_take, List.length_cons, List.length_nil]; omega) k (by simp only [addCk, List.length_append, List.length_take, List.length_cons, List.length_nil]; omega)]
    simp only [Option.bind_some]
    by_cases he : addCk (l.take (l.length - 2)) = l
    · rw [if_pos (decide_eq_true he), clone_ev _ (by rw [List.length_take]; omega), if_pos ⟨by omega, hb, he⟩]
      rfl
    · rw [decide_eq_false he, if_neg (by decide), if_neg (fun h => he h.2.2)]
  · rw [if_neg hb, if_neg (fun h => hb h.2.1)]
theorem check_iff (l : List Int) (m : Nat) (hm : l.length = m + 2) (hb : l.all byteB = true) : addCk (l.take m) = l ↔ ck 65535 (l.take m) = wrap64 (wrap64 (l[m]'(by omega) * 256) + l[m + 1]'(by omega)) := by
  have h0 : 0 ≤ l[m]'(by omega) ∧ l[m]'(by omega) ≤ 255 := of_decide_eq_true (List.all_eq_true.mp hb _ (List.getElem_mem _))
  have h1 : 0 ≤ l[m + 1]'(by omega) ∧ l[m + 1]'(by omega) ≤ 255 := of_decide_eq_true (List.all_eq_true.mp hb _ (List.getElem_mem _))
  have hd : l.drop m = [l[m]'(by omega), l[m + 1]'(by omega)] := by
    rw [drop_cons l m (by omega), drop_cons l (m + 1) (by omega), drop_all l (m + 1 + 1) (by omega)]
  have hbt : (l.take m).all byteB = true := List.all_eq_true.mpr fun x hx => List.all_eq_true.mp hb x (List.mem_of_mem_take hx)
  have hc := ck_range (l.take m) 65535 (by omega) hbt
  have e : addCk (l.take m) = l ↔ [ck 65535 (l.take m) / 256, ck 65535 (l.take m) % 256] = l.drop m := by
    unfold addCk
    constructor
    · intro h
      have h2 := h.trans (List.take_append_drop m l).symm
      exact List.append_cancel_left h2
    · intro h
      rw [h]
      exact List.take_append_drop m l
  rw [e, hd, wrap_id (l[m]'(by omega) * 256) (by omega), wrap_id _ (by omega)]
  simp only [List.cons.injEq, and_true]
  omega
theorem sTakeCheck_ev (l : List Int) (hl : l.length ≤ 1048576) (k : Nat) (hk : 1048700 < k) : spec_TakeCheck.f k l = some (tcR l) := by
  obtain ⟨k, rfl⟩ : ∃ m, k = m + 1 := ⟨k - 1, by omega⟩
  unfold spec_TakeCheck.f tcR
  rw [sAreBytes_ev l (by omega) _ (by omega)]
  simp only [Option.bind_some, spec_TakeCheck.j0]
  by_cases hb : bytesB l = true
  · rw [if_pos hb]
    by_cases h2 : (l.length : Int) < 2
    · rw [decide_eq_true h2, if_pos rfl, if_neg (fun h => by have := h.1; omega)]
    · obtain ⟨m, hm⟩ : ∃ m, l.length = m + 2 := ⟨l.length - 2, by omega⟩
      have hw : wrap64 ((l.length : Int) - 2) = (m : Int) := by rw [wrap_id _ (by omega)]; omega
      have hw1 : wrap64 ((l.length : Int) - 1) = ((m + 1 : Nat) : Int) := by rw [wrap_id _ (by omega)]; omega
      have hn : (m : Int).toNat = m := rfl
      have hn2 : l.length - 2 = m := by omega
      rw [decide_eq_false h2, if_neg (by decide), hw, hw1, if_pos (by omega), if_pos (by omega), hn, sCheck_ev _ (bytesB_take l m hb) _ (by omega)]
      simp only [Option.bind_some]
      rw [if_pos (by omega), if_pos (by omega), if_pos (by omega), rd_lt l m (by omega), rd_lt l (m + 1) (by omega), hn2]
      by_cases hc : addCk (l.take m) = l
      · rw [if_pos ((check_iff l m hm ((bytesB_iff l).1 hb).1).1 hc), if_pos (by simp only [List.length_nil, List.length_take]; omega), if_pos (show takeOk l from ⟨by omega, hb, by rw [hn2]; exact hc⟩), List.nil_append]
      · rw [if_neg (fun h => hc ((check_iff l m hm ((bytesB_iff l).1 hb).1).2 h)), if_neg (show ¬ takeOk l from fun h => hc (by have := h.2.2; rw [hn2] at this; exact this))]
  · rw [if_neg hb, if_pos trivial, if_neg (fun h => hb h.2.1)]
def twR (l : List Int) : Int × List Int × Bool := if takeOk l then (match l.take (l.length - 2) with | [] => (0, [], false) | a :: r => if seqB a = true then (a, r, true) else (0, [], false)) else (0, [], false)
theorem iTakeWire_ev (l : List Int) (hl : l.length ≤ 1048576) (k : Nat) (hk : 1200 < k) : impl_TakeWire.f k l = some (twR l) := by
  unfold impl_TakeWire.f twR
  rw [iTakeCheck_ev l hl k hk]
  simp only [Option.bind_some]
  unfold tcR
  by_cases h : takeOk l
  · simp only [if_pos h, if_true]
    generalize l.take (l.length - 2) = m
    cases m with
    | nil => rfl
    | cons a r =>
      have r0 : rd (a :: r) 0 = a := rfl
      have d1 : (a :: r).drop (1 : Int).toNat = r := rfl
      rw [if_neg (by simp only [List.length_cons]; omega), if_pos (by simp only [List.length_cons]; omega), r0, iIsSeq_eq, d1]
      simp only [Option.bind_some]
      by_cases hs : seqB a = true
      · rw [if_pos hs, if_pos (by simp only [List.length_cons]; omega), if_pos hs]
      · rw [if_neg hs, if_neg hs]
  · simp only [if_neg h, if_false]
    rfl
theorem sTakeWire_ev (l : List Int) (hl : l.length ≤ 1048576) (k : Nat) (hk : 1048700 < k) : spec_TakeWire.f k l = some (twR l) := by
  unfold spec_TakeWire.f twR
  rw [sTakeCheck_ev l hl k hk]
  simp only [Option.bind_some]
  unfold tcR
  by_cases h : takeOk l
  · simp only [if_pos h, if_true]
    generalize l.take (l.length - 2) = m
    cases m with
    | nil => rfl
    | cons a r =>
      have r0 : rd (a :: r) 0 = a := rfl
      have d1 : (a :: r).drop (1 : Int).toNat = r := rfl
      rw [if_neg (by simp only [List.length_cons]; omega), if_pos (by simp only [List.length_cons]; omega), r0, sIsSeq_eq, d1]
      simp only [Option.bind_some]
      by_cases hs : seqB a = true
      · rw [if_pos hs, if_pos (by simp only [List.length_cons]; omega), if_pos hs]
      · rw [if_neg hs, if_neg hs]
  · simp only [if_neg h, if_false]
    rfl
/-- The steps from a sequence number to another. -/
def stepsTo (n x : Int) : Int := if seqB n = true ∧ seqB x = true then (x - n + 16) % 16 else -1
def oldB (n x : Int) : Bool := decide (1 ≤ stepsTo n x ∧ stepsTo n x ≤ 7)
theorem iDist_ev (n x : Int) : impl_SeqDistance.f n x = some (stepsTo n x) := by
  unfold impl_SeqDistance.f stepsTo
  rw [iIsSeq_eq, iIsSeq_eq]
  simp only [Option.bind_some]
  by_cases h1 : seqB n = true
  · by_cases h2 : seqB x = true
    · have g1 : 0 ≤ n ∧ n ≤ 15 := of_decide_eq_true h1
      have g2 : 0 ≤ x ∧ x ≤ 15 := of_decide_eq_true h2
      rw [if_pos h1, if_pos h2, if_pos ⟨h1, h2⟩, wrap_id (x - n) (by omega), wrap_id _ (by omega), Int.tmod_eq_emod_of_nonneg (by omega)]
    · rw [if_pos h1, if_neg h2, if_neg (fun h => h2 h.2)]
  · rw [if_neg h1, if_neg (fun h => h1 h.1)]
theorem iIsOld_ev (n x : Int) : impl_IsOld.f n x = some (oldB n x) := by
  unfold impl_IsOld.f oldB
  rw [iDist_ev]
  simp only [Option.bind_some]
  rw [within_eq]
  rfl
theorem sDist_ev (n x : Int) : spec_SeqDistance.f n x = some (stepsTo n x) := by
  unfold spec_SeqDistance.f stepsTo
  rw [sIsSeq_eq, sIsSeq_eq]
  simp only [Option.bind_some]
  by_cases h1 : seqB n = true
  · by_cases h2 : seqB x = true
    · have g1 : 0 ≤ n ∧ n ≤ 15 := of_decide_eq_true h1
      have g2 : 0 ≤ x ∧ x ≤ 15 := of_decide_eq_true h2
      rw [if_pos h1, if_pos h2, if_pos ⟨h1, h2⟩, wrap_id (x - n) (by omega), wrap_id _ (by omega), Int.tmod_eq_emod_of_nonneg (by omega)]
    · rw [if_pos h1, if_neg h2, if_neg (fun h => h2 h.2)]
  · rw [if_neg h1, if_neg (fun h => h1 h.1)]
theorem sIsOld_ev (n x : Int) : spec_IsOld.f n x = some (oldB n x) := by
  unfold spec_IsOld.f oldB
  rw [sDist_ev]
  simp only [Option.bind_some]
  rw [l01In_eq]
  rfl
/-- The verdict on a row of bytes. -/
def judR (e : Int) (l : List (List Int)) (w : List Int) : Int := if (twR w).2.2 = true ∧ recB e l = true then if (twR w).1 = e then 0 else if oldB (twR w).1 e = true then 1 else 2 else 3
theorem iJudge_ev (e : Int) (l : List (List Int)) (w : List Int) (hl : l.length ≤ 1048576) (hw : w.length ≤ 1048576) (k : Nat) (hk : 1048700 < k) : impl_Judge.f k e l w = some (judR e l w) := by
  obtain ⟨k, rfl⟩ : ∃ m, k = m + 1 := ⟨k - 1, by omega⟩
  unfold impl_Judge.f judR
  rw [iTakeWire_ev w hw _ (by omega)]
  simp only [Option.bind_some, impl_Judge.j0]
  by_cases h1 : (twR w).2.2 = true
  · rw [if_pos h1, iReceiverOk_ev e l hl _ (by omega)]
    simp only [Option.bind_some]
    by_cases h2 : recB e l = true
    · rw [h2, if_neg (by decide), if_pos (show (twR w).2.2 = true ∧ true = true from ⟨h1, rfl⟩)]
      by_cases h3 : (twR w).1 = e
      · rw [if_pos h3, if_pos h3]
      · rw [if_neg h3, if_neg h3, iIsOld_ev]
        simp only [Option.bind_some]
        by_cases h4 : oldB (twR w).1 e = true
        · rw [if_pos h4, if_pos h4]
        · rw [if_neg h4, if_neg h4]
    · rw [Bool.eq_false_iff.mpr h2, if_pos (by decide), if_neg (show ¬ ((twR w).2.2 = true ∧ false = true) from fun h => by cases h.2)]
  · rw [if_neg h1, if_pos trivial, if_neg (fun h => h1 h.1)]
theorem sJudge_ev (e : Int) (l : List (List Int)) (w : List Int) (hl : l.length ≤ 1048576) (hw : w.length ≤ 1048576) (he : ∀ x ∈ l, SmallE x) (k : Nat) (hk : 2097200 < k) : spec_Judge.f k e l w = some (judR e l w) := by
  obtain ⟨k, rfl⟩ : ∃ m, k = m + 1 := ⟨k - 1, by omega⟩
  unfold spec_Judge.f judR
  rw [sTakeWire_ev w hw _ (by omega)]
  simp only [Option.bind_some, spec_Judge.j0]
  by_cases h1 : (twR w).2.2 = true
  · rw [if_pos h1, sReceiverOk_ev e l hl he _ (by omega)]
    simp only [Option.bind_some]
    by_cases h2 : recB e l = true
    · rw [h2, if_neg (by decide), if_pos (show (twR w).2.2 = true ∧ true = true from ⟨h1, rfl⟩)]
      by_cases h3 : (twR w).1 = e
      · rw [if_pos h3, if_pos h3]
      · rw [if_neg h3, if_neg h3, sIsOld_ev]
        simp only [Option.bind_some]
        by_cases h4 : oldB (twR w).1 e = true
        · rw [if_pos h4, if_pos h4]
        · rw [if_neg h4, if_neg h4]
    · rw [Bool.eq_false_iff.mpr h2, if_pos (by decide), if_neg (show ¬ ((twR w).2.2 = true ∧ false = true) from fun h => by cases h.2)]
  · rw [if_neg h1, if_pos trivial, if_neg (fun h => h1 h.1)]
theorem twR_len (l : List Int) : (twR l).2.1.length ≤ 40 := by
  unfold twR
  by_cases h : takeOk l
  · have h40 := ((bytesB_iff l).1 h.2.1).2
    rw [if_pos h]
    have hm : (l.take (l.length - 2)).length ≤ 40 := by rw [List.length_take]; omega
    generalize l.take (l.length - 2) = m at hm
    cases m with
    | nil => simp
    | cons a r =>
      simp only [List.length_cons] at hm
      by_cases hs : seqB a = true
      · simp only [hs, if_true]; omega
      · simp only [hs]; simp
  · rw [if_neg h]; simp
theorem copyLists_l0 (l : List (List Int)) (hl : l.length ≤ 1048576) (hs : ∀ x ∈ l, SmallE x) (d : Nat) : ∀ i : Nat, i + d = l.length → ∀ k, d < k → impl_copyLists.l0 k (l.take i) l (l.length : Int) (i : Int) = some l := by
  induction d with
  | zero =>
    intro i hi k hk
    obtain ⟨k, rfl⟩ : ∃ m, k = m + 1 := ⟨k - 1, by omega⟩
    simp only [impl_copyLists.l0]
    rw [if_neg (by omega), take_all l i (by omega)]
  | succ d ih =>
    intro i hi k hk
    obtain ⟨k, rfl⟩ : ∃ m, k = m + 1 := ⟨k - 1, by omega⟩
    simp only [impl_copyLists.l0]
    rw [if_pos (by omega), if_pos (by omega), if_pos (by omega), rdL_lt l i (by omega), clone_ev l[i] (Nat.le_trans (show (l[i]).length ≤ 1048576 from hs _ (List.getElem_mem (by omega))) (by omega))]
    simp only [Option.bind_some]
    rw [if_pos (by rw [List.length_take]; omega), ← take_snoc l i (by omega), wrap_succ i (by omega)]
    exact ih (i + 1) (by omega) k (by omega)
theorem copyLists_ev (l : List (List Int)) (hl : l.length ≤ 1048576) (hs : ∀ x ∈ l, SmallE x) (k : Nat) (hk : l.length < k) : impl_copyLists.f k l = some l := by
  unfold impl_copyLists.f
  exact copyLists_l0 l hl hs l.length 0 (by omega) k hk
/-- The numbers s, s + 1, .. -/
def markL (n : Nat) (s : Int) : List Int := (List.range n).map fun (i : Nat) => s + (i : Int)
theorem markL_length (n : Nat) (s : Int) : (markL n s).length = n := by simp [markL]
theorem markL_get (n : Nat) (s : Int) (i : Nat) (h : i < (markL n s).length) : (markL n s)[i] = s + (i : Int) := by simp [markL]
theorem markIntS_l0 (n : Nat) (s : Int) (hn : n ≤ 1048576) (h0 : 0 ≤ s) (h1 : s ≤ 4000000000000000000) (d : Nat) : ∀ (x : List Int) (i : Nat), x.length = n → x.take i = (markL n s).take i → i + d = n → ∀ k, d < k → laws_markIntS.l0 k x (s + (i : Int)) (i : Int) = some (s + (n : Int), markL n s) := by
  induction d with
  | zero =>
    intro x i hx ht hi k hk
    obtain ⟨k, rfl⟩ : ∃ m, k = m + 1 := ⟨k - 1, by omega⟩
    simp only [laws_markIntS.l0]
    have hlen := markL_length n s
    rw [if_neg (show ¬ (i : Int) < (x.length : Int) by omega), fill_end x (markL n s) i (by omega) (by omega) ht, show i = n by omega]
  | succ d ih =>
    intro x i hx ht hi k hk
    obtain ⟨k, rfl⟩ : ∃ m, k = m + 1 := ⟨k - 1, by omega⟩
    have hlen := markL_length n s
    simp only [laws_markIntS.l0]
    rw [if_pos (show (i : Int) < (x.length : Int) by omega), if_pos (show (0 : Int) ≤ (i : Int) by omega), wrap_succ i (by omega), toNat_nat, wrap_id (s + (i : Int) + 1) (by omega)]
    have e : s + (i : Int) + 1 = s + ((i + 1 : Nat) : Int) := by omega
    rw [e]
    exact ih _ (i + 1) (by simp [hx]) (fill_step x (markL n s) i _ (by omega) (by omega) ht (markL_get n s i (by omega)).symm) (by omega) k (by omega)
theorem markIntS_ev (l : List Int) (s : Int) (hn : l.length ≤ 1048576) (h0 : 0 ≤ s) (h1 : s ≤ 4000000000000000000) (k : Nat) (hk : l.length < k) : laws_markIntS.f k l s = some (s + (l.length : Int), markL l.length s) := by
  unfold laws_markIntS.f
  have h := markIntS_l0 l.length s hn h0 h1 l.length l 0 rfl (by simp) (by omega) k hk
  simpa using h
theorem heldIntS_l0 (n : Nat) (s : Int) (hn : n ≤ 1048576) (h0 : 0 ≤ s) (h1 : s ≤ 4000000000000000000) (d : Nat) : ∀ (i : Nat), i + d = n → ∀ k, d < k → laws_heldIntS.l0 k (markL n s) (s + (i : Int)) (i : Int) = some (s + (n : Int)) := by
  have hlen := markL_length n s
  induction d with
  | zero =>
    intro i hi k hk
    obtain ⟨k, rfl⟩ : ∃ m, k = m + 1 := ⟨k - 1, by omega⟩
    simp only [laws_heldIntS.l0]
    rw [if_neg (show ¬ (i : Int) < ((markL n s).length : Int) by omega), show i = n by omega]
  | succ d ih =>
    intro i hi k hk
    obtain ⟨k, rfl⟩ : ∃ m, k = m + 1 := ⟨k - 1, by omega⟩
    simp only [laws_heldIntS.l0]
    rw [if_pos (show (i : Int) < ((markL n s).length : Int) by omega), if_pos (show (0 : Int) ≤ (i : Int) by omega), rd_lt _ i (by omega), markL_get n s i (by omega), if_pos rfl, wrap_succ i (by omega), wrap_id (s + (i : Int) + 1) (by omega)]
    have e : s + (i : Int) + 1 = s + ((i + 1 : Nat) : Int) := by omega
    rw [e]
    exact ih (i + 1) (by omega) k (by omega)
theorem heldIntS_ev (n : Nat) (s : Int) (hn : n ≤ 1048576) (h0 : 0 ≤ s) (h1 : s ≤ 4000000000000000000) (k : Nat) (hk : n < k) : laws_heldIntS.f k (markL n s) s = some (s + (n : Int)) := by
  unfold laws_heldIntS.f
  have h := heldIntS_l0 n s hn h0 h1 n 0 (by omega) k hk
  simpa using h
/-- All rows' lengths. -/
def totL : List (List Int) → Nat
  | [] => 0
  | x :: l => x.length + totL l
def markLL : List (List Int) → Int → List (List Int)
  | [], _ => []
  | x :: l, s => markL x.length s :: markLL l (s + (x.length : Int))
theorem rdL_mid (done : List (List Int)) (x : List Int) (rest : List (List Int)) : rd_L1 (done ++ x :: rest) (done.length : Int) = x := by
  unfold rd_L1
  rw [toNat_nat]
  simp
theorem set_mid {α : Type} (done : List α) (x y : α) (rest : List α) : (done ++ x :: rest).set done.length y = (done ++ [y]) ++ rest := by
  rw [List.set_append_right _ _ (Nat.le_refl _)]
  simp
theorem markSS_l0 (rest : List (List Int)) : ∀ (done : List (List Int)) (s : Int), 0 ≤ s → s + (totL rest : Int) ≤ 4000000000000000000 → done.length + rest.length ≤ 1048576 → (∀ x ∈ rest, x.length ≤ 1048576) → ∀ k, 1048577 + rest.length < k → laws_markIntSS.l0 k (done ++ rest) s (done.length : Int) = some (s + (totL rest : Int), done ++ markLL rest s) := by
  induction rest with
  | nil =>
    intro done s h0 h1 hl hs k hk
    obtain ⟨k, rfl⟩ : ∃ m, k = m + 1 := ⟨k - 1, by omega⟩
    simp only [laws_markIntSS.l0]
    rw [if_neg (by rw [List.append_nil]; omega)]
    simp [totL, markLL]
  | cons x rest ih =>
    intro done s h0 h1 hl hs k hk
    obtain ⟨k, rfl⟩ : ∃ m, k = m + 1 := ⟨k - 1, by omega⟩
    have hx := hs x (by simp)
    simp only [List.length_cons] at hk hl
    have ht : totL (x :: rest) = x.length + totL rest := rfl
    simp only [laws_markIntSS.l0]
    rw [if_pos (by rw [List.length_append, List.length_cons]; omega), if_pos (by omega), rdL_mid, markIntS_ev x s hx h0 (by omega) k (by omega)]
    simp only [Option.bind_some]
    rw [wrap_succ _ (by omega), toNat_nat, set_mid]
    have h := ih (done ++ [markL x.length s]) (s + (x.length : Int)) (by omega) (by omega) (by rw [List.length_append, List.length_singleton]; omega) (fun y hy => hs y (by simp [hy])) k (by omega)
    rw [List.length_append, List.length_singleton] at h
    rw [h, ht]
    simp only [markLL, List.append_assoc, List.singleton_append]
    congr 2
    omega
theorem markSS_ev (l : List (List Int)) (s : Int) (h0 : 0 ≤ s) (h1 : s + (totL l : Int) ≤ 4000000000000000000) (hl : l.length ≤ 1048576) (hs : ∀ x ∈ l, x.length ≤ 1048576) (k : Nat) (hk : 2097155 < k) : laws_markIntSS.f k l s = some (s + (totL l : Int), markLL l s) := by
  unfold laws_markIntSS.f
  exact markSS_l0 l [] s h0 h1 (by simpa using hl) hs k (by omega)
theorem heldSS_l0 (rest : List (List Int)) : ∀ (done : List (List Int)) (s : Int), 0 ≤ s → s + (totL rest : Int) ≤ 4000000000000000000 → done.length + rest.length ≤ 1048576 → (∀ x ∈ rest, x.length ≤ 1048576) → ∀ k, 1048577 + rest.length < k → laws_heldIntSS.l0 k (done ++ markLL rest s) s (done.length : Int) = some (s + (totL rest : Int)) := by
  induction rest with
  | nil =>
    intro done s h0 h1 hl hs k hk
    obtain ⟨k, rfl⟩ : ∃ m, k = m + 1 := ⟨k - 1, by omega⟩
    simp only [laws_heldIntSS.l0]
    rw [if_neg (by simp only [markLL, List.append_nil]; omega)]
    simp [totL]
  | cons x rest ih =>
    intro done s h0 h1 hl hs k hk
    obtain ⟨k, rfl⟩ : ∃ m, k = m + 1 := ⟨k - 1, by omega⟩
    have hx := hs x (by simp)
    simp only [List.length_cons] at hk hl
    have ht : totL (x :: rest) = x.length + totL rest := rfl
    show laws_heldIntSS.l0 (k + 1) (done ++ markL x.length s :: markLL rest (s + (x.length : Int))) s (done.length : Int) = _
    simp only [laws_heldIntSS.l0]
    rw [if_pos (by rw [List.length_append, List.length_cons]; omega), if_pos (by omega), rdL_mid, heldIntS_ev x.length s hx h0 (by omega) k (by omega)]
    simp only [Option.bind_some]
    rw [if_neg (by omega), wrap_succ _ (by omega)]
    have h := ih (done ++ [markL x.length s]) (s + (x.length : Int)) (by omega) (by omega) (by rw [List.length_append, List.length_singleton]; omega) (fun y hy => hs y (by simp [hy])) k (by omega)
    rw [List.length_append, List.length_singleton, List.append_assoc, List.singleton_append] at h
    rw [h, ht]
    congr 1
    omega
theorem heldSS_ev (l : List (List Int)) (s : Int) (h0 : 0 ≤ s) (h1 : s + (totL l : Int) ≤ 4000000000000000000) (hl : l.length ≤ 1048576) (hs : ∀ x ∈ l, x.length ≤ 1048576) (k : Nat) (hk : 2097155 < k) : laws_heldIntSS.f k (markLL l s) s = some (s + (totL l : Int)) := by
  unfold laws_heldIntSS.f
  exact heldSS_l0 l [] s h0 h1 (by simpa using hl) hs k (by omega)
theorem totL_le (m : Nat) (l : List (List Int)) (h : ∀ x ∈ l, x.length ≤ m) : totL l ≤ l.length * m := by
  induction l with
  | nil => simp [totL]
  | cons x l ih =>
    have h1 := h x (by simp)
    have h2 := ih (fun y hy => h y (by simp [hy]))
    simp only [totL, List.length_cons, Nat.succ_mul]
    omega
def nxE (a : Int) : Int := if seqB a = true then Int.tmod (wrap64 (a + 1)) 16 else -1
theorem sNext_ev (a : Int) : spec_NextSeq.f a = some (nxE a) := by
  unfold spec_NextSeq.f nxE
  rw [sIsSeq_eq]
  simp only [Option.bind_some]
  by_cases h : seqB a = true
  · rw [if_pos h, if_pos h]
  · rw [if_neg h, if_neg h]
theorem iNext_ev (a : Int) : impl_NextSeq.f a = some (nxE a) := by
  unfold impl_NextSeq.f nxE
  rw [iIsSeq_eq]
  simp only [Option.bind_some]
  by_cases h : seqB a = true
  · rw [if_pos h, if_pos h]
  · rw [if_neg h, if_neg h]
theorem sCopy_l0 (a b : Int) (l : List (List Int)) (hl : l.length ≤ 1048576) (he : ∀ x ∈ l, SmallE x) (d : Nat) : ∀ i : Nat, i + d = l.length → ∀ k, d < k → spec_l09Copy.l0 k (i : Int) a l b (l.take i) = some (b, l) := by
  induction d with
  | zero =>
    intro i hi k hk
    obtain ⟨k, rfl⟩ : ∃ m, k = m + 1 := ⟨k - 1, by omega⟩
    rw [spec_l09Copy.l0]
    rw [if_neg (by omega), List.take_of_length_le (by omega)]
  | succ d ih =>
    intro i hi k hk
    obtain ⟨k, rfl⟩ : ∃ m, k = m + 1 := ⟨k - 1, by omega⟩
    have hlt : i < l.length := by omega
    have hr : rd_L1 l (i : Int) = l[i] := rdL_lt l i hlt
    have hx : l[i].length ≤ 1048576 := he _ (List.getElem_mem hlt)
    have ih := ih (i + 1) (by omega) k (by omega)
    rw [spec_l09Copy.l0]
    rw [if_pos (by omega), Option.bind_some, if_pos (by omega), hr, List.length_nil, if_pos (by omega), List.length_take, if_pos (by omega), wrap_succ i (by omega), List.nil_append]
    rw [List.take_succ_eq_append_getElem hlt] at ih
    exact ih
theorem sCopy_ev (a : Int) (l : List (List Int)) (hl : l.length ≤ 1048576) (he : ∀ x ∈ l, SmallE x) (k : Nat) (hk : 1048576 < k) : spec_l09Copy.f k a l = some (a, l) := by
  unfold spec_l09Copy.f
  exact sCopy_l0 a a l hl he l.length 0 (by omega) k (by omega)
theorem iCopyR_ev (a : Int) (l : List (List Int)) (hl : l.length ≤ 1048576) (he : ∀ x ∈ l, SmallE x) (k : Nat) (hk : 2097160 < k) : impl_copyReceiver.f k a l = some (a, l) := by
  unfold impl_copyReceiver.f
  rw [copyLists_ev l hl he k (by omega)]
  rfl
def tfR (a : Int) (l : List (List Int)) (w : List Int) : Int × List (List Int) × Int := if judR a l w = 0 then (if (l.length : Int) = 1000 then (a, l, 2) else (nxE a, l ++ [(twR w).2.1], 0)) else (a, l, judR a l w)
theorem sTake_ev (a : Int) (l : List (List Int)) (w : List Int) (hl : l.length ≤ 1048576) (hw : w.length ≤ 1048576) (he : ∀ x ∈ l, SmallE x) (k : Nat) (hk : 2097300 < k) : spec_TakeFrame.f k a l w = some (tfR a l w) := by
  unfold spec_TakeFrame.f tfR
  rw [sCopy_ev a l hl he k (by omega)]
  simp only [Option.bind_some]
  rw [sJudge_ev a l w hl hw he k (by omega)]
  simp only [Option.bind_some]
  by_cases h : judR a l w = 0
  · rw [if_pos h, if_pos h]
    by_cases h2 : (l.length : Int) = 1000
    · rw [if_pos h2, if_pos h2]
    · rw [if_neg h2, if_neg h2, sTakeWire_ev w hw k (by omega), h]
      simp only [Option.bind_some]
      rw [if_pos (by omega), sNext_ev]
      rfl
  · rw [if_neg h, if_neg h]
theorem iTake_ev (a : Int) (l : List (List Int)) (w : List Int) (hl : l.length ≤ 1048576) (hw : w.length ≤ 1048576) (he : ∀ x ∈ l, SmallE x) (k : Nat) (hk : 2097300 < k) : impl_TakeFrame.f k a l w = some (tfR a l w) := by
  unfold impl_TakeFrame.f tfR
  rw [iCopyR_ev a l hl he k (by omega)]
  simp only [Option.bind_some]
  rw [iJudge_ev a l w hl hw k (by omega)]
  simp only [Option.bind_some]
  have h40 := twR_len w
  by_cases h : judR a l w = 0
  · rw [if_pos h, if_pos h]
    by_cases h2 : (l.length : Int) = 1000
    · rw [if_pos h2, if_pos h2]
    · rw [if_neg h2, if_neg h2, iTakeWire_ev w hw k (by omega)]
      simp only [Option.bind_some]
      rw [clone_ev _ (by omega)]
      simp only [Option.bind_some]
      rw [if_pos (by omega), iNext_ev]
      rfl
  · rw [if_neg h, if_neg h]
theorem jud_rec {a : Int} {l : List (List Int)} {w : List Int} (h : judR a l w = 0) : l.length ≤ 1000 := by
  unfold judR at h
  split at h
  · rename_i h2
    have h3 := h2.2
    unfold recB at h3
    simp only [Bool.and_eq_true, decide_eq_true_eq] at h3
    exact h3.2.2
  · omega
theorem tfR_small (a : Int) (l : List (List Int)) (w : List Int) (hl : l.length ≤ 1048576) (he : ∀ x ∈ l, SmallE x) : (tfR a l w).2.1.length ≤ 1048576 ∧ ∀ x ∈ (tfR a l w).2.1, SmallE x := by
  unfold tfR
  by_cases h : judR a l w = 0
  · have hr := jud_rec h
    rw [if_pos h]
    by_cases h2 : (l.length : Int) = 1000
    · rw [if_pos h2]; exact ⟨hl, he⟩
    · rw [if_neg h2]
      refine ⟨by simp only [List.length_append, List.length_cons, List.length_nil]; omega, fun x hx => ?_⟩
      rcases List.mem_append.1 hx with hx | hx
      · exact he x hx
      · have := List.mem_singleton.1 hx
        have h40 := twR_len w
        subst this
        show (twR w).2.1.length ≤ 1048576
        omega
  · rw [if_neg h]; exact ⟨hl, he⟩
theorem markR_ev (a : Int) (l : List (List Int)) (s : Int) (h0 : 0 ≤ s) (h1 : s + (totL l : Int) ≤ 4000000000000000000) (hl : l.length ≤ 1048576) (hs : ∀ x ∈ l, SmallE x) (k : Nat) (hk : 2097155 < k) : laws_markReceiver.f k a l s = some (s + (totL l : Int), markLL l s) := by
  unfold laws_markReceiver.f
  rw [markSS_ev l s h0 h1 hl hs k hk]
  rfl
theorem heldR_ev (a : Int) (l : List (List Int)) (s : Int) (h0 : 0 ≤ s) (h1 : s + (totL l : Int) ≤ 4000000000000000000) (hl : l.length ≤ 1048576) (hs : ∀ x ∈ l, SmallE x) (k : Nat) (hk : 2097155 < k) : laws_heldReceiver.f k a (markLL l s) s = some (s + (totL l : Int)) := by
  unfold laws_heldReceiver.f
  rw [heldSS_ev l s h0 h1 hl hs k hk]
  simp only [Option.bind_some]
  rw [if_neg (by omega)]
theorem FnExactTakeFrame : laws_FnExactTakeFrame.Pure := by
  intro a l w _ ⟨hm, hw⟩ ⟨hwm, _⟩
  obtain ⟨r, h1, _, h2⟩ := szReceiver_ev a l 1048576 (by omega) (by omega) hm (fun x hx => (hw x hx).1)
  refine ⟨4194400, ?_⟩
  unfold laws_FnExactTakeFrame.f
  by_cases hbig : (1048576 : Int) < (w.length : Int)
  · rw [if_pos hbig]
  have hwl : w.length ≤ 1048576 := by omega
  rw [if_neg hbig, h1 _ (by omega)]
  simp only [Option.bind_some]
  by_cases h0 : r < 0
  · rw [if_pos h0]
  obtain ⟨hl, he⟩ := h2 (by omega)
  obtain ⟨q1, q2⟩ := tfR_small a l w hl he
  have hS := sTake_ev a l w hl hwl he 4194400 (by omega)
  have hI := iTake_ev a l w hl hwl he 4194400 (by omega)
  obtain ⟨g1, g2, g3, hR⟩ : ∃ g1 g2 g3, tfR a l w = (g1, g2, g3) := ⟨_, _, _, rfl⟩
  rw [hR] at q1 q2 hS hI
  have hto := toReceiver_ev a l hl he 4194400 (by omega)
  have hti := toIntS_ev w hwl 4194400 (by omega)
  have e1 := eqReceiver_ev g1 g2 q1 q2 4194400 (by omega)
  have e2 := eqReceiver_ev a l hl he 4194400 (by omega)
  have e3 := eqIntS_ev w w (by omega) 4194400 (by omega)
  rw [decide_eq_true rfl] at e3
  have ht := totL_le 1048576 l he
  have ht2 := totL_le 1048576 g2 q2
  have q1' : g2.length ≤ 1048576 := q1
  have m1 := markR_ev a l 1 (by omega) (by omega) hl he 4194400 (by omega)
  have m2 := markIntS_ev w (1 + (totL l : Int)) hwl (by omega) (by omega) 4194400 (by omega)
  have m3 := markR_ev g1 g2 1 (by omega) (by omega) q1 q2 4194400 (by omega)
  have m4 := heldR_ev g1 g2 1 (by omega) (by omega) q1 q2 4194400 (by omega)
  rw [if_neg h0]
  simp only [hto, hti, hS, hI, e1, e2, e3, m1, m2, m3, m4, Option.bind_some, if_true]
  rw [if_pos (by omega), if_pos (by omega), if_pos (by omega)]

end Go.Proofs.Ytnonmppmiagmiaa.Pure
