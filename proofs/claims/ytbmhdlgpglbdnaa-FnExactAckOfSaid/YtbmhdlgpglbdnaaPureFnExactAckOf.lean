/- The statement FnExactAckOf over lists of whole numbers: the program and the reference answer with the same sequence number for every receiver, and the program leaves what it is given. What is larger than the law's own bound is let by, as the law itself does. -/
import Derived.Test.YtbmhdlgpglbdnaaPFnExactAckOfx3
import Derived.Test.YtbmhdlgpglbdnaaXLists
namespace Go.Proofs.Ytbmhdlgpglbdnaa.Pure
open Go.RowKit Go.Proofs.Ytbmhdlgpglbdnaa.PFnExactAckOf Go.Proofs.YtbmhdlgpglbdnaaW.PrintWords Go.Proofs.YtbmhdlgpglbdnaaW.PrintLast Go.Proofs.YtbmhdlgpglbdnaaW.PrintMore Go.Proofs.YtbmhdlgpglbdnaaX

/-- A row that is no longer than the law's bound. -/
def SmallE (x : List Int) : Prop := x.length ≤ 1048576
def FitE (x : List Int) : Prop := x.length ≤ 9223372036854775807
theorem rdL_lt (l : List (List Int)) (i : Nat) (h : i < l.length) : rd_L1 l (i : Int) = l[i] := by
  show l.getD i [] = l[i]
  simp [h]
theorem szIntS_eq (l : List Int) (left : Int) (h0 : 0 ≤ left) (h1 : left ≤ 1048576) (hl : l.length ≤ 9223372036854775807) : laws_szIntS.f l left = some (if left < l.length then -1 else left - l.length) := by
  unfold laws_szIntS.f
  rw [wrap_id _ (by omega)]
  by_cases h : left < l.length
  · rw [if_pos (by omega), if_pos h]
  · rw [if_neg (by omega), if_neg h]
theorem szE (x : List Int) (left : Int) (h0 : 0 ≤ left) (h1 : left ≤ 1048576) (hw : FitE x) : ∃ r, laws_szIntS.f x left = some r ∧ r ≤ left ∧ (0 ≤ r → SmallE x) := by
  unfold FitE at hw
  refine ⟨_, szIntS_eq x left h0 h1 hw, ?_, fun h => ?_⟩
  · split <;> omega
  · unfold SmallE
    split at h <;> omega
theorem szIntSS_l0 (l : List (List Int)) (hl : l.length ≤ 1048576) (hw : ∀ x ∈ l, FitE x) (d : Nat) : ∀ (i : Nat) (left : Int), 0 ≤ left → left ≤ 1048576 → i + d = l.length → ∃ r, (∀ k, d < k → laws_szIntSS.l0 k l left (i : Int) = some r) ∧ r ≤ left ∧ (0 ≤ r → ∀ x ∈ l.drop i, SmallE x) := by
  induction d with
  | zero =>
    intro i left h0 h1 hi
    refine ⟨left, fun k hk => ?_, Int.le_refl _, fun _ x hx => ?_⟩
    · obtain ⟨k, rfl⟩ : ∃ m, k = m + 1 := ⟨k - 1, by omega⟩
      simp only [laws_szIntSS.l0]
      rw [if_neg (show ¬ (i : Int) < (l.length : Int) by omega)]
    · rw [drop_all l i (by omega)] at hx; cases hx
  | succ d ih =>
    intro i left h0 h1 hi
    have hlt : i < l.length := by omega
    obtain ⟨q, e, hq1, hq2⟩ := szE l[i] left h0 h1 (hw _ (List.getElem_mem hlt))
    by_cases hq : q < 0
    · refine ⟨-1, fun k hk => ?_, by omega, fun h => by omega⟩
      obtain ⟨k, rfl⟩ : ∃ m, k = m + 1 := ⟨k - 1, by omega⟩
      simp only [laws_szIntSS.l0]
      rw [if_pos (show (i : Int) < (l.length : Int) by omega), if_pos (show (0 : Int) ≤ (i : Int) by omega), rdL_lt l i hlt, e]
      simp only [Option.bind_some]
      rw [if_pos hq]
    · obtain ⟨r, hr1, hr2, hr3⟩ := ih (i + 1) q (by omega) (by omega) (by omega)
      refine ⟨r, fun k hk => ?_, by omega, fun h x hx => ?_⟩
      · obtain ⟨k, rfl⟩ : ∃ m, k = m + 1 := ⟨k - 1, by omega⟩
        simp only [laws_szIntSS.l0]
        rw [if_pos (show (i : Int) < (l.length : Int) by omega), if_pos (show (0 : Int) ≤ (i : Int) by omega), rdL_lt l i hlt, e]
        simp only [Option.bind_some]
        rw [if_neg hq, wrap_succ i (by omega)]
        exact hr1 k (by omega)
      · rw [drop_cons l i hlt] at hx
        rcases List.mem_cons.1 hx with rfl | hx
        · exact hq2 (by omega)
        · exact hr3 h x hx
theorem szIntSS_ev (l : List (List Int)) (left : Int) (h0 : 0 ≤ left) (h1 : left ≤ 1048576) (hm : l.length ≤ 9223372036854775807) (hw : ∀ x ∈ l, FitE x) : ∃ r, (∀ k, 1048577 ≤ k → laws_szIntSS.f k l left = some r) ∧ r ≤ left ∧ (0 ≤ r → l.length ≤ 1048576 ∧ ∀ x ∈ l, SmallE x) := by
  unfold laws_szIntSS.f
  rw [wrap_id _ (by omega)]
  by_cases h : left - (l.length : Int) < 0
  · refine ⟨-1, fun k hk => ?_, by omega, fun h => by omega⟩
    rw [if_pos h]
  · obtain ⟨r, hr1, hr2, hr3⟩ := szIntSS_l0 l (by omega) hw l.length 0 (left - (l.length : Int)) (by omega) (by omega) (by omega)
    refine ⟨r, fun k hk => ?_, by omega, fun h => ⟨by omega, fun x hx => hr3 h x (by simpa using hx)⟩⟩
    rw [if_neg h]
    exact hr1 k (by omega)
theorem toIntS_l0 (l : List Int) (hb : l.length ≤ 1048576) (d : Nat) : ∀ (x : List Int) (i : Nat), x.length = l.length → x.take i = l.take i → i + d = l.length → ∀ k, d < k → laws_toIntS.l0 k l x (i : Int) = some l := by
  induction d with
  | zero =>
    intro x i hx ht hi k hk
    obtain ⟨k, rfl⟩ : ∃ m, k = m + 1 := ⟨k - 1, by omega⟩
    simp only [laws_toIntS.l0]
    rw [if_neg (show ¬ (i : Int) < (l.length : Int) by omega), fill_end x l i hx (by omega) ht]
  | succ d ih =>
    intro x i hx ht hi k hk
    obtain ⟨k, rfl⟩ : ∃ m, k = m + 1 := ⟨k - 1, by omega⟩
    simp only [laws_toIntS.l0]
    rw [if_pos (show (i : Int) < (l.length : Int) by omega), if_pos (show (0 : Int) ≤ (i : Int) by omega), if_pos (show (i : Int) < (x.length : Int) by omega), wrap_succ i (by omega), toNat_nat, rd_lt l i (by omega)]
    exact ih _ (i + 1) (by simp [hx]) (fill_step x l i _ (by omega) (by omega) ht rfl) (by omega) k (by omega)
theorem toIntS_ev (l : List Int) (hb : l.length ≤ 1048576) : ∀ k, l.length < k → laws_toIntS.f k l = some l := by
  intro k hk
  unfold laws_toIntS.f
  rw [if_pos (by omega), if_pos (by omega)]
  exact toIntS_l0 l hb l.length _ 0 (by simp) (by simp) (by omega) k hk
theorem toIntSS_l0 (l : List (List Int)) (hb : l.length ≤ 1048576) (he : ∀ x ∈ l, SmallE x) (d : Nat) : ∀ (x : List (List Int)) (i : Nat), x.length = l.length → x.take i = l.take i → i + d = l.length → ∀ k, 1048577 + d < k → laws_toIntSS.l0 k l x (i : Int) = some l := by
  induction d with
  | zero =>
    intro x i hx ht hi k hk
    obtain ⟨k, rfl⟩ : ∃ m, k = m + 1 := ⟨k - 1, by omega⟩
    simp only [laws_toIntSS.l0]
    rw [if_neg (show ¬ (i : Int) < (l.length : Int) by omega), fill_end x l i hx (by omega) ht]
  | succ d ih =>
    intro x i hx ht hi k hk
    obtain ⟨k, rfl⟩ : ∃ m, k = m + 1 := ⟨k - 1, by omega⟩
    have hlt : i < l.length := by omega
    simp only [laws_toIntSS.l0]
    rw [if_pos (show (i : Int) < (l.length : Int) by omega), if_pos (show (0 : Int) ≤ (i : Int) by omega), rdL_lt l i hlt, toIntS_ev l[i] (he _ (List.getElem_mem hlt)) k (by have := (he _ (List.getElem_mem hlt)); unfold SmallE at this; omega)]
    simp only [Option.bind_some]
    rw [if_pos (show (i : Int) < (x.length : Int) by omega), wrap_succ i (by omega), toNat_nat]
    exact ih _ (i + 1) (by simp [hx]) (fill_step x l i _ (by omega) (by omega) ht rfl) (by omega) k (by omega)
theorem toIntSS_ev (l : List (List Int)) (hb : l.length ≤ 1048576) (he : ∀ x ∈ l, SmallE x) : ∀ k, 1048577 + l.length < k → laws_toIntSS.f k l = some l := by
  intro k hk
  unfold laws_toIntSS.f
  rw [if_pos (by omega), if_pos (by omega)]
  exact toIntSS_l0 l hb he l.length _ 0 (by simp) (by simp) (by omega) k hk
theorem eqIntS_l0 (a b : List Int) (hl : a.length = b.length) (hb : a.length < 9223372036854775807) (d : Nat) : ∀ (i : Nat), i + d = a.length → ∀ k, d < k → laws_eqIntS.l0 k a b (i : Int) = some (decide (a.drop i = b.drop i)) := by
  induction d with
  | zero =>
    intro i hi k hk
    obtain ⟨k, rfl⟩ : ∃ m, k = m + 1 := ⟨k - 1, by omega⟩
    simp only [laws_eqIntS.l0]
    rw [if_neg (show ¬ (i : Int) < (a.length : Int) by omega), drop_all a i (by omega), drop_all b i (by omega)]
    simp
  | succ d ih =>
    intro i hi k hk
    obtain ⟨k, rfl⟩ : ∃ m, k = m + 1 := ⟨k - 1, by omega⟩
    simp only [laws_eqIntS.l0]
    rw [if_pos (show (i : Int) < (a.length : Int) by omega), if_pos (show (0 : Int) ≤ (i : Int) by omega), if_pos (show (i : Int) < (b.length : Int) by omega)]
    by_cases he : rd a (i : Int) = rd b (i : Int)
    · rw [if_pos he, wrap_succ i (by omega), ih (i + 1) (by omega) k (by omega)]
      congr 1
      rw [decide_eq_decide, drop_eq_iff a b i (by omega) (by omega)]
      exact ⟨fun h => ⟨he, h⟩, fun h => h.2⟩
    · rw [if_neg he]
      congr 1
      symm
      rw [decide_eq_false_iff_not, drop_eq_iff a b i (by omega) (by omega)]
      exact fun h => he h.1
theorem eqIntS_ev (a b : List Int) (hb : a.length < 9223372036854775807) : ∀ k, a.length < k → laws_eqIntS.f k a b = some (decide (a = b)) := by
  intro k hk
  unfold laws_eqIntS.f
  by_cases hl : a.length = b.length
  · rw [if_pos (by omega)]
    exact eqIntS_l0 a b hl hb a.length 0 (by omega) k hk
  · rw [if_neg (by omega), decide_eq_false (fun h => hl (by rw [h]))]
theorem eqIntSS_l0 (a b : List (List Int)) (hl : a.length = b.length) (hb : a.length ≤ 1048576) (he : ∀ x ∈ a, SmallE x) (d : Nat) : ∀ (i : Nat), i + d = a.length → ∀ k, 1048577 + d < k → laws_eqIntSS.l0 k a b (i : Int) = some (decide (a.drop i = b.drop i)) := by
  induction d with
  | zero =>
    intro i hi k hk
    obtain ⟨k, rfl⟩ : ∃ m, k = m + 1 := ⟨k - 1, by omega⟩
    simp only [laws_eqIntSS.l0]
    rw [if_neg (show ¬ (i : Int) < (a.length : Int) by omega), drop_all a i (by omega), drop_all b i (by omega)]
    simp
  | succ d ih =>
    intro i hi k hk
    obtain ⟨k, rfl⟩ : ∃ m, k = m + 1 := ⟨k - 1, by omega⟩
    have h1 : i < a.length := by omega
    have h2 : i < b.length := by omega
    simp only [laws_eqIntSS.l0]
    rw [if_pos (show (i : Int) < (a.length : Int) by omega), if_pos (show (0 : Int) ≤ (i : Int) by omega), if_pos (show (i : Int) < (b.length : Int) by omega), rdL_lt a i h1, rdL_lt b i h2, eqIntS_ev a[i] b[i] (by have := (he _ (List.getElem_mem h1)); unfold SmallE at this; omega) k (by have := (he _ (List.getElem_mem h1)); unfold SmallE at this; omega)]
    simp only [Option.bind_some]
    by_cases hq : a[i] = b[i]
    · rw [if_pos (decide_eq_true hq), wrap_succ i (by omega), ih (i + 1) (by omega) k (by omega)]
      congr 1
      rw [decide_eq_decide, drop_cons a i h1, drop_cons b i h2, List.cons.injEq]
      exact ⟨fun h => ⟨hq, h⟩, fun h => h.2⟩
    · rw [if_neg (by simp [hq])]
      congr 1
      symm
      rw [decide_eq_false_iff_not, drop_cons a i h1, drop_cons b i h2, List.cons.injEq]
      exact fun h => hq h.1
theorem eqIntSS_ev (a b : List (List Int)) (hb : a.length ≤ 1048576) (he : ∀ x ∈ a, SmallE x) : ∀ k, 1048577 + a.length < k → laws_eqIntSS.f k a b = some (decide (a = b)) := by
  intro k hk
  unfold laws_eqIntSS.f
  by_cases hl : a.length = b.length
  · rw [if_pos (by omega)]
    exact eqIntSS_l0 a b hl hb he a.length 0 (by omega) k hk
  · rw [if_neg (by omega), decide_eq_false (fun h => hl (by rw [h]))]
theorem within_eq (a l m : Int) : impl_within.f a l m = some (decide (l ≤ a ∧ a ≤ m)) := by
  unfold impl_within.f
  by_cases h : a ≥ l
  · have h' : l ≤ a := h
    rw [if_pos h]; simp [h']
  · have h' : ¬ l ≤ a := h
    rw [if_neg h]; simp [h']
theorem l01In_eq (a l m : Int) : spec_l01In.f a l m = some (decide (l ≤ a ∧ a ≤ m)) := by
  unfold spec_l01In.f
  by_cases h : a ≥ l
  · have h' : l ≤ a := h
    rw [if_pos h]; simp [h']
  · have h' : ¬ l ≤ a := h
    rw [if_neg h]; simp [h']
def byteB (x : Int) : Bool := decide (0 ≤ x ∧ x ≤ 255)
def bytesB (l : List Int) : Bool := l.all byteB && decide (l.length ≤ 40)
theorem sAreBytes_l0 (l : List (Int)) (hl : l.length ≤ 1048576) (d : Nat) : ∀ i : Nat, i + d = l.length → ∀ k, 0 + d < k → spec_AreBytes.l0 k l (i : Int) = some ((l.drop i).all byteB && decide (l.length ≤ 40)) := by
  induction d with
  | zero =>
    intro i hi k hk
    obtain ⟨k, rfl⟩ : ∃ m, k = m + 1 := ⟨k - 1, by omega⟩
    simp only [spec_AreBytes.l0]
    rw [if_neg (show ¬ (i : Int) < (l.length : Int) by omega), drop_all l i (by omega)]
    simp; omega
  | succ d ih =>
    intro i hi k hk
    obtain ⟨k, rfl⟩ : ∃ m, k = m + 1 := ⟨k - 1, by omega⟩
    have hlt : i < l.length := by omega
    simp only [spec_AreBytes.l0]
    rw [if_pos (show (i : Int) < (l.length : Int) by omega), if_pos (show (0 : Int) ≤ (i : Int) by omega), rd_lt l i hlt, show spec_l01In.f l[i] 0 255 = some (byteB l[i]) from l01In_eq _ _ _]
    simp only [Option.bind_some]
    by_cases hp : byteB l[i] = true
    · rw [if_pos hp, wrap_succ i (by omega), ih (i + 1) (by omega) k (by omega), drop_cons l i hlt, List.all_cons, hp, Bool.true_and]
    · rw [if_neg hp, drop_cons l i hlt, List.all_cons, Bool.eq_false_iff.mpr hp, Bool.false_and, Bool.false_and]
theorem sAreBytes_ev (l : List Int) (hl : l.length ≤ 1048576) (k : Nat) (hk : l.length < k) : spec_AreBytes.f k l = some (bytesB l) := sAreBytes_l0 l hl l.length 0 (by omega) k (by omega)
theorem notByte_eq (x : Int) : impl_AreBytes_1.f x = some (!byteB x) := by
  unfold impl_AreBytes_1.f impl_isByte.f
  rw [within_eq]
  rfl
theorem cBytes_l0 (l : List (Int)) (hl : l.length ≤ 1048576) (d : Nat) : ∀ i : Nat, i + d = l.length → ∀ k, 0 + d < k → ∃ r, slices_IndexFunc_int_int__impl_AreBytes_1.l0 k l (l.length : Int) (i : Int) = some r ∧ decide (r ≥ 0) = (l.drop i).any (fun x => !byteB x) := by
  induction d with
  | zero =>
    intro i hi k hk
    obtain ⟨k, rfl⟩ : ∃ m, k = m + 1 := ⟨k - 1, by omega⟩
    refine ⟨-1, ?_, ?_⟩
    · simp only [slices_IndexFunc_int_int__impl_AreBytes_1.l0]
      rw [if_neg (show ¬ (i : Int) < (l.length : Int) by omega)]
    · rw [drop_all l i (by omega)]; rfl
  | succ d ih =>
    intro i hi k hk
    obtain ⟨k, rfl⟩ : ∃ m, k = m + 1 := ⟨k - 1, by omega⟩
    have hlt : i < l.length := by omega
    simp only [slices_IndexFunc_int_int__impl_AreBytes_1.l0]
    rw [if_pos (show (i : Int) < (l.length : Int) by omega), if_pos (show (0 : Int) ≤ (i : Int) by omega), if_pos (show (i : Int) < (l.length : Int) by omega), rd_lt l i hlt, notByte_eq l[i]]
    simp only [Option.bind_some]
    by_cases hp : (fun x => !byteB x) l[i] = true
    · rw [if_pos hp]
      exact ⟨_, rfl, by rw [any_drop_yes l i hlt _ hp, decide_eq_true (by omega)]⟩
    · rw [if_neg hp, wrap_succ i (by omega)]
      obtain ⟨r, h1, h2⟩ := ih (i + 1) (by omega) k (by omega)
      exact ⟨r, h1, by rw [h2, any_drop_no l i hlt _ hp]⟩
theorem cBytes_ev (l : List (Int)) (hl : l.length ≤ 1048576) (k : Nat) (hk : 0 + l.length < k) : slices_ContainsFunc_int_int__impl_AreBytes_1.f k l = some (l.any (fun x => !byteB x)) := by
  obtain ⟨r, h1, h2⟩ := cBytes_l0 l hl l.length 0 (by omega) k hk
  unfold slices_ContainsFunc_int_int__impl_AreBytes_1.f slices_IndexFunc_int_int__impl_AreBytes_1.f
  have c0 : ((0 : Nat) : Int) = 0 := rfl
  rw [c0] at h1
  rw [h1]
  simp only [Option.bind_some]
  rw [h2]; rfl
theorem any_not {α : Type} (l : List α) (p : α → Bool) : (!l.any fun x => !p x) = l.all p := by
  induction l with
  | nil => rfl
  | cons a l ih => rw [List.any_cons, List.all_cons, Bool.not_or, ih, Bool.not_not]
theorem iAreBytes_ev (l : List Int) (k : Nat) (hk : 40 < k) : impl_AreBytes.f k l = some (bytesB l) := by
  unfold impl_AreBytes.f bytesB
  by_cases h : (l.length : Int) ≤ 40
  · rw [if_pos h, cBytes_ev l (by omega) k (by omega)]
    simp only [Option.bind_some]
    rw [any_not, decide_eq_true (show l.length ≤ 40 by omega), Bool.and_true]
  · rw [if_neg h, decide_eq_false (show ¬ l.length ≤ 40 by omega), Bool.and_false]
def seqB (x : Int) : Bool := decide (0 ≤ x ∧ x ≤ 15)
def recB (a : Int) (l : List (List Int)) : Bool := l.all bytesB && (seqB a && decide (l.length ≤ 1000))
theorem sIsSeq_eq (a : Int) : spec_IsSeq.f a = some (seqB a) := by
  unfold spec_IsSeq.f; rw [l01In_eq]; rfl
theorem iIsSeq_eq (a : Int) : impl_IsSeq.f a = some (seqB a) := by
  unfold impl_IsSeq.f; rw [within_eq]; rfl
theorem sReceiverOk_l0 (a : Int) (l : List (List Int)) (hl : l.length ≤ 1048576) (he : ∀ x ∈ l, SmallE x) (d : Nat) : ∀ i : Nat, i + d = l.length → ∀ k, 1048577 + d < k → spec_ReceiverOk.l0 k (i : Int) a l = some ((l.drop i).all bytesB && (seqB a && decide (l.length ≤ 1000))) := by
  induction d with
  | zero =>
    intro i hi k hk
    obtain ⟨k, rfl⟩ : ∃ m, k = m + 1 := ⟨k - 1, by omega⟩
    simp only [spec_ReceiverOk.l0]
    rw [if_neg (show ¬ (i : Int) < (l.length : Int) by omega), drop_all l i (by omega), sIsSeq_eq]
    simp only [Option.bind_some, List.all_nil, Bool.true_and]
    cases seqB a <;> simp <;> omega
  | succ d ih =>
    intro i hi k hk
    obtain ⟨k, rfl⟩ : ∃ m, k = m + 1 := ⟨k - 1, by omega⟩
    have hlt : i < l.length := by omega
    have hs := he _ (List.getElem_mem hlt)
    unfold SmallE at hs
    simp only [spec_ReceiverOk.l0]
    rw [if_pos (show (i : Int) < (l.length : Int) by omega), if_pos (show (0 : Int) ≤ (i : Int) by omega), rdL_lt l i hlt, sAreBytes_ev l[i] hs k (by omega)]
    simp only [Option.bind_some]
    by_cases hp : bytesB l[i] = true
    · rw [if_pos hp, wrap_succ i (by omega), ih (i + 1) (by omega) k (by omega), drop_cons l i hlt, List.all_cons, hp, Bool.true_and]
    · rw [if_neg hp, drop_cons l i hlt, List.all_cons, Bool.eq_false_iff.mpr hp, Bool.false_and, Bool.false_and]
theorem sReceiverOk_ev (a : Int) (l : List (List Int)) (hl : l.length ≤ 1048576) (he : ∀ x ∈ l, SmallE x) (k : Nat) (hk : 2097155 < k) : spec_ReceiverOk.f k a l = some (recB a l) := sReceiverOk_l0 a l hl he l.length 0 (by omega) k (by omega)
theorem notBytes_eq (k : Nat) (hk : 40 < k) (x : List Int) : impl_areLists_1.f k x = some (!bytesB x) := by
  unfold impl_areLists_1.f
  rw [iAreBytes_ev x k hk]
  rfl
theorem cLists_l0 (l : List (List Int)) (hl : l.length ≤ 1048576) (d : Nat) : ∀ i : Nat, i + d = l.length → ∀ k, 41 + d < k → ∃ r, slices_IndexFunc_int_int__impl_areLists_1.l0 k l (l.length : Int) (i : Int) = some r ∧ decide (r ≥ 0) = (l.drop i).any (fun x => !bytesB x) := by
  induction d with
  | zero =>
    intro i hi k hk
    obtain ⟨k, rfl⟩ : ∃ m, k = m + 1 := ⟨k - 1, by omega⟩
    refine ⟨-1, ?_, ?_⟩
    · simp only [slices_IndexFunc_int_int__impl_areLists_1.l0]
      rw [if_neg (show ¬ (i : Int) < (l.length : Int) by omega)]
    · rw [drop_all l i (by omega)]; rfl
  | succ d ih =>
    intro i hi k hk
    obtain ⟨k, rfl⟩ : ∃ m, k = m + 1 := ⟨k - 1, by omega⟩
    have hlt : i < l.length := by omega
    simp only [slices_IndexFunc_int_int__impl_areLists_1.l0]
    rw [if_pos (show (i : Int) < (l.length : Int) by omega), if_pos (show (0 : Int) ≤ (i : Int) by omega), if_pos (show (i : Int) < (l.length : Int) by omega), rdL_lt l i hlt, notBytes_eq k (by omega) l[i]]
    simp only [Option.bind_some]
    by_cases hp : (fun x => !bytesB x) l[i] = true
    · rw [if_pos hp]
      exact ⟨_, rfl, by rw [any_drop_yes l i hlt _ hp, decide_eq_true (by omega)]⟩
    · rw [if_neg hp, wrap_succ i (by omega)]
      obtain ⟨r, h1, h2⟩ := ih (i + 1) (by omega) k (by omega)
      exact ⟨r, h1, by rw [h2, any_drop_no l i hlt _ hp]⟩
theorem cLists_ev (l : List (List Int)) (hl : l.length ≤ 1048576) (k : Nat) (hk : 41 + l.length < k) : slices_ContainsFunc_int_int__impl_areLists_1.f k l = some (l.any (fun x => !bytesB x)) := by
  obtain ⟨r, h1, h2⟩ := cLists_l0 l hl l.length 0 (by omega) k hk
  unfold slices_ContainsFunc_int_int__impl_areLists_1.f slices_IndexFunc_int_int__impl_areLists_1.f
  have c0 : ((0 : Nat) : Int) = 0 := rfl
  rw [c0] at h1
  rw [h1]
  simp only [Option.bind_some]
  rw [h2]; rfl
theorem iAreLists_ev (l : List (List Int)) (hl : l.length ≤ 1048576) (k : Nat) (hk : 1048620 < k) : impl_areLists.f k l = some (l.all bytesB) := by
  unfold impl_areLists.f
  rw [cLists_ev l hl k (by omega)]
  simp only [Option.bind_some]
  rw [any_not]
theorem iReceiverOk_ev (a : Int) (l : List (List Int)) (hl : l.length ≤ 1048576) (k : Nat) (hk : 1048620 < k) : impl_ReceiverOk.f k a l = some (recB a l) := by
  unfold impl_ReceiverOk.f recB
  rw [iIsSeq_eq]
  simp only [Option.bind_some]
  by_cases hs : seqB a = true
  · rw [if_pos hs, hs]
    by_cases h : (l.length : Int) ≤ 1000
    · rw [if_pos h, iAreLists_ev l hl k hk, decide_eq_true (show l.length ≤ 1000 by omega)]
      simp
    · rw [if_neg h, decide_eq_false (show ¬ l.length ≤ 1000 by omega)]
      simp
  · rw [if_neg hs, Bool.eq_false_iff.mpr hs]
    simp
theorem toReceiver_ev (a : Int) (l : List (List Int)) (hl : l.length ≤ 1048576) (he : ∀ x ∈ l, SmallE x) (k : Nat) (hk : 2097155 < k) : laws_toReceiver.f k a l = some (a, l) := by
  unfold laws_toReceiver.f
  rw [toIntSS_ev l hl he k (by omega)]
  rfl
theorem eqReceiver_ev (a : Int) (l : List (List Int)) (hl : l.length ≤ 1048576) (he : ∀ x ∈ l, SmallE x) (k : Nat) (hk : 2097155 < k) : laws_eqReceiver.f k a l a l = some true := by
  unfold laws_eqReceiver.f
  rw [if_pos rfl, eqIntSS_ev l l hl he k (by omega)]
  simp
theorem szReceiver_ev (a : Int) (l : List (List Int)) (left : Int) (h0 : 0 ≤ left) (h1 : left ≤ 1048576) (hm : l.length ≤ 9223372036854775807) (hw : ∀ x ∈ l, FitE x) : ∃ r, (∀ k, 1048577 ≤ k → laws_szReceiver.f k a l left = some r) ∧ r ≤ left ∧ (0 ≤ r → l.length ≤ 1048576 ∧ ∀ x ∈ l, SmallE x) := by
  obtain ⟨r, h2, h3, h4⟩ := szIntSS_ev l left h0 h1 hm hw
  by_cases h : r < 0
  · refine ⟨-1, fun k hk => ?_, by omega, fun h => by omega⟩
    unfold laws_szReceiver.f
    rw [h2 k hk]
    simp only [Option.bind_some]
    rw [if_pos h]
  · refine ⟨r, fun k hk => ?_, h3, h4⟩
    unfold laws_szReceiver.f
    rw [h2 k hk]
    simp only [Option.bind_some]
    rw [if_neg h]
theorem FnExactAckOf : laws_FnExactAckOf.Pure := by
  intro a l _ ⟨hm, hw⟩
  obtain ⟨r, h1, _, h2⟩ := szReceiver_ev a l 1048576 (by omega) (by omega) hm (fun x hx => (hw x hx).1)
  refine ⟨2097156, ?_⟩
  unfold laws_FnExactAckOf.f spec_AckOf.f impl_AckOf.f
  rw [h1 _ (by omega)]
  simp only [Option.bind_some]
  by_cases h0 : r < 0
  · rw [if_pos h0]
  obtain ⟨hl, he⟩ := h2 (by omega)
  rw [if_neg h0, toReceiver_ev a l hl he _ (by omega)]
  simp only [Option.bind_some]
  rw [sReceiverOk_ev a l hl he _ (by omega), iReceiverOk_ev a l hl _ (by omega)]
  simp only [Option.bind_some]
  rw [eqReceiver_ev a l hl he _ (by omega)]
  cases recB a l <;> simp

end Go.Proofs.Ytbmhdlgpglbdnaa.Pure
