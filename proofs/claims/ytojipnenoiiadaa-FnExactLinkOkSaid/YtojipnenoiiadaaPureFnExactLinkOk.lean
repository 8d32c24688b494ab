/- The statement FnExactLinkOk over lists: for any link the program and the reference say alike whether it is well formed, and the program leaves what it is given. What is larger than the law's own bound is let by, as the law itself does. -/
import Derived.OpenShut
import Derived.Test.YtojipnenoiiadaaPFnExactLinkOkx
import Derived.Test.YtojipnenoiiadaaVLists
namespace Go.Proofs.Ytojipnenoiiadaa.Pure
set_option linter.unusedVariables false
set_option linter.unusedSimpArgs false
open Go.RowKit Go.Proofs.Ytojipnenoiiadaa.PFnExactLinkOk Go.Proofs.YtojipnenoiiadaaW.PrintWords Go.Proofs.YtojipnenoiiadaaW.PrintLast Go.Proofs.YtojipnenoiiadaaW.PrintMore Go.Proofs.YtojipnenoiiadaaX

/-- A row that is no longer than the law's bound. -/
def SmallE (x : List Int) : Prop := x.length ≤ 1048576
def FitE (x : List Int) : Prop := x.length ≤ 9223372036854775807
theorem rdL_lt (l : List (List Int)) (i : Nat) (h : i < l.length) : rd_L1 l (i : Int) = l[i] := by
  show l.getD i [] = l[i]
  simp [h]
theorem szIntS_eq (l : List Int) (left : Int) (h0 : 0 ≤ left) (h1 : left ≤ 1048576) (hl : l.length ≤ 9223372036854775807) : laws_szIntS.f l left = some (if left < l.length then -1 else left - l.length) := by
  unfold laws_szIntS.f
  rw [wrap_id _ (by omega)]
  by_cases h : left < l.length
  · rw [if_pos (by omega), if_pos h]
  · rw [if_neg (by omega), if_neg h]
theorem szE (x : List Int) (left : Int) (h0 : 0 ≤ left) (h1 : left ≤ 1048576) (hw : FitE x) : ∃ r, laws_szIntS.f x left = some r ∧ r ≤ left ∧ (0 ≤ r → SmallE x) := by
  unfold FitE at hw
  refine ⟨_, szIntS_eq x left h0 h1 hw, ?_, fun h => ?_⟩
  · split <;> omega
  · unfold SmallE
    split at h <;> omega
theorem szIntSS_l0 (l : List (List Int)) (hl : l.length ≤ 1048576) (hw : ∀ x ∈ l, FitE x) (d : Nat) : ∀ (i : Nat) (left : Int), 0 ≤ left → left ≤ 1048576 → i + d = l.length → ∃ r, (∀ k, d < k → laws_szIntSS.l0 k l left (i : Int) = some r) ∧ r ≤ left ∧ (0 ≤ r → ∀ x ∈ l.drop i, SmallE x) := by
  induction d with
  | zero =>
    intro i left h0 h1 hi
    refine ⟨left, fun k hk => ?_, Int.le_refl _, fun _ x hx => ?_⟩
    · obtain ⟨k, rfl⟩ : ∃ m, k = m + 1 := ⟨k - 1, by omega⟩
      simp only [laws_szIntSS.l0]
      rw [if_neg (show ¬ (i : Int) < (l.length : Int) by omega)]
    · rw [drop_all l i (by omega)] at hx; cases hx
  | succ d ih =>
    intro i left h0 h1 hi
    have hlt : i < l.length := by omega
    obtain ⟨q, e, hq1, hq2⟩ := szE l[i] left h0 h1 (hw _ (List.getElem_mem hlt))
    by_cases hq : q < 0
    · refine ⟨-1, fun k hk => ?_, by omega, fun h => by omega⟩
      obtain ⟨k, rfl⟩ : ∃ m, k = m + 1 := ⟨k - 1, by omega⟩
      simp only [laws_szIntSS.l0]
      rw [if_pos (show (i : Int) < (l.length : Int) by omega), if_pos (show (0 : Int) ≤ (i : Int) by omega), rdL_lt l i hlt, e]
      simp only [Option.bind_some]
      rw [if_pos hq]
    · obtain ⟨r, hr1, hr2, hr3⟩ := ih (i + 1) q (by omega) (by omega) (by omega)
      refine ⟨r, fun k hk => ?_, by omega, fun h x hx => ?_⟩
      · obtain ⟨k, rfl⟩ : ∃ m, k = m + 1 := ⟨k - 1, by omega⟩
        simp only [laws_szIntSS.l0]
        rw [if_pos (show (i : Int) < (l.length : Int) by omega), if_pos (show (0 : Int) ≤ (i : Int) by omega), rdL_lt l i hlt, e]
        simp only [Option.bind_some]
        rw [if_neg hq, wrap_succ i (by omega)]
        exact hr1 k (by omega)
      · rw [drop_cons l i hlt] at hx
        rcases List.mem_cons.1 hx with rfl | hx
        · exact hq2 (by omega)
        · exact hr3 h x hx
theorem szIntSS_ev (l : List (List Int)) (left : Int) (h0 : 0 ≤ left) (h1 : left ≤ 1048576) (hm : l.length ≤ 9223372036854775807) (hw : ∀ x ∈ l, FitE x) : ∃ r, (∀ k, 1048577 ≤ k → laws_szIntSS.f k l left = some r) ∧ r ≤ left ∧ (0 ≤ r → l.length ≤ 1048576 ∧ ∀ x ∈ l, SmallE x) := by
  unfold laws_szIntSS.f
  rw [wrap_id _ (by omega)]
  by_cases h : left - (l.length : Int) < 0
  · refine ⟨-1, fun k hk => ?_, by omega, fun h => by omega⟩
    rw [if_pos h]
  · obtain ⟨r, hr1, hr2, hr3⟩ := szIntSS_l0 l (by omega) hw l.length 0 (left - (l.length : Int)) (by omega) (by omega) (by omega)
    refine ⟨r, fun k hk => ?_, by omega, fun h => ⟨by omega, fun x hx => hr3 h x (by simpa using hx)⟩⟩
    rw [if_neg h]
    exact hr1 k (by omega)
theorem toIntS_l0 (l : List Int) (hb : l.length ≤ 1048576) (d : Nat) : ∀ (x : List Int) (i : Nat), x.length = l.length → x.take i = l.take i → i + d = l.length → ∀ k, d < k → laws_toIntS.l0 k l x (i : Int) = some l := by
  induction d with
  | zero =>
    intro x i hx ht hi k hk
    obtain ⟨k, rfl⟩ : ∃ m, k = m + 1 := ⟨k - 1, by omega⟩
    simp only [laws_toIntS.l0]
    rw [if_neg (show ¬ (i : Int) < (l.length : Int) by omega), fill_end x l i hx (by omega) ht]
  | succ d ih =>
    intro x i hx ht hi k hk
    obtain ⟨k, rfl⟩ : ∃ m, k = m + 1 := ⟨k - 1, by omega⟩
    simp only [laws_toIntS.l0]
    rw [if_pos (show (i : Int) < (l.length : Int) by omega), if_pos (show (0 : Int) ≤ (i : Int) by omega), if_pos (show (i : Int) < (x.length : Int) by omega), wrap_succ i (by omega), toNat_nat, rd_lt l i (by omega)]
    exact ih _ (i + 1) (by simp [hx]) (fill_step x l i _ (by omega) (by omega) ht rfl) (by omega) k (by omega)
theorem toIntS_ev (l : List Int) (hb : l.length ≤ 1048576) : ∀ k, l.length < k → laws_toIntS.f k l = some l := by
  intro k hk
  unfold laws_toIntS.f
  rw [if_pos (by omega), if_pos (by omega)]
  exact toIntS_l0 l hb l.length _ 0 (by simp) (by simp) (by omega) k hk
theorem toIntSS_l0 (l : List (List Int)) (hb : l.length ≤ 1048576) (he : ∀ x ∈ l, SmallE x) (d : Nat) : ∀ (x : List (List Int)) (i : Nat), x.length = l.length → x.take i = l.take i → i + d = l.length → ∀ k, 1048577 + d < k → laws_toIntSS.l0 k l x (i : Int) = some l := by
  induction d with
  | zero =>
    intro x i hx ht hi k hk
    obtain ⟨k, rfl⟩ : ∃ m, k = m + 1 := ⟨k - 1, by omega⟩
    simp only [laws_toIntSS.l0]
    rw [if_neg (show ¬ (i : Int) < (l.length : Int) by omega), fill_end x l i hx (by omega) ht]
  | succ d ih =>
    intro x i hx ht hi k hk
    obtain ⟨k, rfl⟩ : ∃ m, k = m + 1 := ⟨k - 1, by omega⟩
    have hlt : i < l.length := by omega
    simp only [laws_toIntSS.l0]
    rw [if_pos (show (i : Int) < (l.length : Int) by omega), if_pos (show (0 : Int) ≤ (i : Int) by omega), rdL_lt l i hlt, toIntS_ev l[i] (he _ (List.getElem_mem hlt)) k (by have := (he _ (List.getElem_mem hlt)); unfold SmallE at this; omega)]
    simp only [Option.bind_some]
    rw [if_pos (show (i : Int) < (x.length : Int) by omega), wrap_succ i (by omega), toNat_nat]
    exact ih _ (i + 1) (by simp [hx]) (fill_step x l i _ (by omega) (by omega) ht rfl) (by omega) k (by omega)
theorem toIntSS_ev (l : List (List Int)) (hb : l.length ≤ 1048576) (he : ∀ x ∈ l, SmallE x) : ∀ k, 1048577 + l.length < k → laws_toIntSS.f k l = some l := by
  intro k hk
  unfold laws_toIntSS.f
  rw [if_pos (by omega), if_pos (by omega)]
  exact toIntSS_l0 l hb he l.length _ 0 (by simp) (by simp) (by omega) k hk
theorem eqIntS_l0 (a b : List Int) (hl : a.length = b.length) (hb : a.length < 9223372036854775807) (d : Nat) : ∀ (i : Nat), i + d = a.length → ∀ k, d < k → laws_eqIntS.l0 k a b (i : Int) = some (decide (a.drop i = b.drop i)) := by
  induction d with
  | zero =>
    intro i hi k hk
    obtain ⟨k, rfl⟩ : ∃ m, k = m + 1 := ⟨k - 1, by omega⟩
    simp only [laws_eqIntS.l0]
    rw [if_neg (show ¬ (i : Int) < (a.length : Int) by omega), drop_all a i (by omega), drop_all b i (by omega)]
    simp
  | succ d ih =>
    intro i hi k hk
    obtain ⟨k, rfl⟩ : ∃ m, k = m + 1 := ⟨k - 1, by omega⟩
    simp only [laws_eqIntS.l0]
    rw [if_pos (show (i : Int) < (a.length : Int) by omega), if_pos (show (0 : Int) ≤ (i : Int) by omega), if_pos (show (i : Int) < (b.length : Int) by omega)]
    by_cases he : rd a (i : Int) = rd b (i : Int)
    · rw [if_pos he, wrap_succ i (by omega), ih (i + 1) (by omega) k (by omega)]
      congr 1
      rw [decide_eq_decide, drop_eq_iff a b i (by omega) (by omega)]
      exact ⟨fun h => ⟨he, h⟩, fun h => h.2⟩
    · rw [if_neg he]
      congr 1
      symm
      rw [decide_eq_false_iff_not, drop_eq_iff a b i (by omega) (by omega)]
      exact fun h => he h.1
theorem eqIntS_ev (a b : List Int) (hb : a.length < 9223372036854775807) : ∀ k, a.length < k → laws_eqIntS.f k a b = some (decide (a = b)) := by
  intro k hk
  unfold laws_eqIntS.f
  by_cases hl : a.length = b.length
  · rw [if_pos (by omega)]
    exact eqIntS_l0 a b hl hb a.length 0 (by omega) k hk
  · rw [if_neg (by omega), decide_eq_false (fun h => hl (by rw [h]))]
theorem eqIntSS_l0 (a b : List (List Int)) (hl : a.length = b.length) (hb : a.length ≤ 1048576) (he : ∀ x ∈ a, SmallE x) (d : Nat) : ∀ (i : Nat), i + d = a.length → ∀ k, 1048577 + d < k → laws_eqIntSS.l0 k a b (i : Int) = some (decide (a.drop i = b.drop i)) := by
  induction d with
  | zero =>
    intro i hi k hk
    obtain ⟨k, rfl⟩ : ∃ m, k = m + 1 := ⟨k - 1, by omega⟩
    simp only [laws_eqIntSS.l0]
    rw [if_neg (show ¬ (i : Int) < (a.length : Int) by omega), drop_all a i (by omega), drop_all b i (by omega)]
    simp
  | succ d ih =>
    intro i hi k hk
    obtain ⟨k, rfl⟩ : ∃ m, k = m + 1 := ⟨k - 1, by omega⟩
    have h1 : i < a.length := by omega
    have h2 : i < b.length := by omega
    simp only [laws_eqIntSS.l0]
    rw [if_pos (show (i : Int) < (a.length : Int) by omega), if_pos (show (0 : Int) ≤ (i : Int) by omega), if_pos (show (i : Int) < (b.length : Int) by omega), rdL_lt a i h1, rdL_lt b i h2, eqIntS_ev a[i] b[i] (by have := (he _ (List.getElem_mem h1)); unfold SmallE at this; omega) k (by have := (he _ (List.getElem_mem h1)); unfold SmallE at this; omega)]
    simp only [Option.bind_some]
    by_cases hq : a[i] = b[i]
    · rw [if_pos (decide_eq_true hq), wrap_succ i (by omega), ih (i + 1) (by omega) k (by omega)]
      congr 1
      rw [decide_eq_decide, drop_cons a i h1, drop_cons b i h2, List.cons.injEq]
      exact ⟨fun h => ⟨hq, h⟩, fun h => h.2⟩
    · rw [if_neg (by simp [hq])]
      congr 1
      symm
      rw [decide_eq_false_iff_not, drop_cons a i h1, drop_cons b i h2, List.cons.injEq]
      exact fun h => hq h.1
theorem eqIntSS_ev (a b : List (List Int)) (hb : a.length ≤ 1048576) (he : ∀ x ∈ a, SmallE x) : ∀ k, 1048577 + a.length < k → laws_eqIntSS.f k a b = some (decide (a = b)) := by
  intro k hk
  unfold laws_eqIntSS.f
  by_cases hl : a.length = b.length
  · rw [if_pos (by omega)]
    exact eqIntSS_l0 a b hl hb he a.length 0 (by omega) k hk
  · rw [if_neg (by omega), decide_eq_false (fun h => hl (by rw [h]))]
theorem within_eq (a l m : Int) : impl_within.f a l m = some (decide (l ≤ a ∧ a ≤ m)) := by
  unfold impl_within.f
  by_cases h : a ≥ l
  · have h' : l ≤ a := h
    rw [if_pos h]; simp [h']
  · have h' : ¬ l ≤ a := h
    rw [if_neg h]; simp [h']
theorem l01In_eq (a l m : Int) : spec_l01In.f a l m = some (decide (l ≤ a ∧ a ≤ m)) := by
  unfold spec_l01In.f
  by_cases h : a ≥ l
  · have h' : l ≤ a := h
    rw [if_pos h]; simp [h']
  · have h' : ¬ l ≤ a := h
    rw [if_neg h]; simp [h']
theorem any_not {α : Type} (l : List α) (p : α → Bool) : (!l.any fun x => !p x) = l.all p := by
  induction l with
  | nil => rfl
  | cons a l ih => rw [List.any_cons, List.all_cons, Bool.not_or, ih, Bool.not_not]
def byteB (x : Int) : Bool := decide (0 ≤ x ∧ x ≤ 255)
def bytesB (l : List Int) : Bool := l.all byteB && decide (l.length ≤ 40)
theorem sAreBytes_l0 (l : List (Int)) (hl : l.length ≤ 1048576) (d : Nat) : ∀ i : Nat, i + d = l.length → ∀ k, 0 + d < k → spec_AreBytes.l0 k l (i : Int) = some ((l.drop i).all byteB && decide (l.length ≤ 40)) := by
  induction d with
  | zero =>
    intro i hi k hk
    obtain ⟨k, rfl⟩ : ∃ m, k = m + 1 := ⟨k - 1, by omega⟩
    simp only [spec_AreBytes.l0]
    rw [if_neg (show ¬ (i : Int) < (l.length : Int) by omega), drop_all l i (by omega)]
    simp; omega
  | succ d ih =>
    intro i hi k hk
    obtain ⟨k, rfl⟩ : ∃ m, k = m + 1 := ⟨k - 1, by omega⟩
    have hlt : i < l.length := by omega
    simp only [spec_AreBytes.l0]
    rw [if_pos (show (i : Int) < (l.length : Int) by omega), if_pos (show (0 : Int) ≤ (i : Int) by omega), rd_lt l i hlt, show spec_l01In.f l[i] 0 255 = some (byteB l[i]) from l01In_eq _ _ _]
    simp only [Option.bind_some]
    by_cases hp : byteB l[i] = true
    · rw [if_pos hp, wrap_succ i (by omega), ih (i + 1) (by omega) k (by omega), drop_cons l i hlt, List.all_cons, hp, Bool.true_and]
    · rw [if_neg hp, drop_cons l i hlt, List.all_cons, Bool.eq_false_iff.mpr hp, Bool.false_and, Bool.false_and]
theorem sAreBytes_ev (l : List Int) (hl : l.length ≤ 1048576) (k : Nat) (hk : l.length < k) : spec_AreBytes.f k l = some (bytesB l) := sAreBytes_l0 l hl l.length 0 (by omega) k (by omega)
theorem notByte_eq (x : Int) : impl_AreBytes_1.f x = some (!byteB x) := by
  unfold impl_AreBytes_1.f impl_isByte.f
  rw [within_eq]
  rfl
theorem cBytes_l0 (l : List (Int)) (hl : l.length ≤ 1048576) (d : Nat) : ∀ i : Nat, i + d = l.length → ∀ k, 0 + d < k → ∃ r, slices_IndexFunc_int_int_impl_AreBytes_1.l0 k l (l.length : Int) (i : Int) = some r ∧ decide (r ≥ 0) = (l.drop i).any (fun x => !byteB x) := by
  induction d with
  | zero =>
    intro i hi k hk
    obtain ⟨k, rfl⟩ : ∃ m, k = m + 1 := ⟨k - 1, by omega⟩
    refine ⟨-1, ?_, ?_⟩
    · simp only [slices_IndexFunc_int_int_impl_AreBytes_1.l0]
      rw [if_neg (show ¬ (i : Int) < (l.length : Int) by omega)]
    · rw [drop_all l i (by omega)]; rfl
  | succ d ih =>
    intro i hi k hk
    obtain ⟨k, rfl⟩ : ∃ m, k = m + 1 := ⟨k - 1, by omega⟩
    have hlt : i < l.length := by omega
    simp only [slices_IndexFunc_int_int_impl_AreBytes_1.l0]
    rw [if_pos (show (i : Int) < (l.length : Int) by omega), if_pos (show (0 : Int) ≤ (i : Int) by omega), if_pos (show (i : Int) < (l.length : Int) by omega), rd_lt l i hlt, notByte_eq l[i]]
    simp only [Option.bind_some]
    by_cases hp : (fun x => !byteB x) l[i] = true
    · rw [if_pos hp]
      exact ⟨_, rfl, by rw [any_drop_yes l i hlt _ hp, decide_eq_true (by omega)]⟩
    · rw [if_neg hp, wrap_succ i (by omega)]
      obtain ⟨r, h1, h2⟩ := ih (i + 1) (by omega) k (by omega)
      exact ⟨r, h1, by rw [h2, any_drop_no l i hlt _ hp]⟩
theorem cBytes_ev (l : List (Int)) (hl : l.length ≤ 1048576) (k : Nat) (hk : 0 + l.length < k) : slices_ContainsFunc_int_int_impl_AreBytes_1.f k l = some (l.any (fun x => !byteB x)) := by
  obtain ⟨r, h1, h2⟩ := cBytes_l0 l hl l.length 0 (by omega) k hk
  unfold slices_ContainsFunc_int_int_impl_AreBytes_1.f slices_IndexFunc_int_int_impl_AreBytes_1.f
  have c0 : ((0 : Nat) : Int) = 0 := rfl
  rw [c0] at h1
  rw [h1]
  simp only [Option.bind_some]
  rw [h2]; rfl
theorem iAreBytes_ev (l : List Int) (k : Nat) (hk : 40 < k) : impl_AreBytes.f k l = some (bytesB l) := by
  unfold impl_AreBytes.f bytesB
  by_cases h : (l.length : Int) ≤ 40
  · rw [if_pos h, cBytes_ev l (by omega) k (by omega)]
    simp only [Option.bind_some]
    rw [any_not, decide_eq_true (show l.length ≤ 40 by omega), Bool.and_true]
  · rw [if_neg h, decide_eq_false (show ¬ l.length ≤ 40 by omega), Bool.and_false]
def seqB (x : Int) : Bool := decide (0 ≤ x ∧ x ≤ 15)
def recB (a : Int) (l : List (List Int)) : Bool := l.all bytesB && (seqB a && decide (l.length ≤ 1000))
theorem sIsSeq_eq (a : Int) : spec_IsSeq.f a = some (seqB a) := by
  unfold spec_IsSeq.f; rw [l01In_eq]; rfl
theorem iIsSeq_eq (a : Int) : impl_IsSeq.f a = some (seqB a) := by
  unfold impl_IsSeq.f; rw [within_eq]; rfl
theorem sReceiverOk_l0 (a : Int) (l : List (List Int)) (hl : l.length ≤ 1048576) (he : ∀ x ∈ l, SmallE x) (d : Nat) : ∀ i : Nat, i + d = l.length → ∀ k, 1048577 + d < k → spec_ReceiverOk.l0 k (i : Int) a l = some ((l.drop i).all bytesB && (seqB a && decide (l.length ≤ 1000))) := by
  induction d with
  | zero =>
    intro i hi k hk
    obtain ⟨k, rfl⟩ : ∃ m, k = m + 1 := ⟨k - 1, by omega⟩
    simp only [spec_ReceiverOk.l0]
    rw [if_neg (show ¬ (i : Int) < (l.length : Int) by omega), drop_all l i (by omega), sIsSeq_eq]
    simp only [Option.bind_some, List.all_nil, Bool.true_and]
    cases seqB a <;> simp <;> omega
  | succ d ih =>
    intro i hi k hk
    obtain ⟨k, rfl⟩ : ∃ m, k = m + 1 := ⟨k - 1, by omega⟩
    have hlt : i < l.length := by omega
    have hs := he _ (List.getElem_mem hlt)
    unfold SmallE at hs
    simp only [spec_ReceiverOk.l0]
    rw [if_pos (show (i : Int) < (l.length : Int) by omega), if_pos (show (0 : Int) ≤ (i : Int) by omega), rdL_lt l i hlt, sAreBytes_ev l[i] hs k (by omega)]
    simp only [Option.bind_some]
    by_cases hp : bytesB l[i] = true
    · rw [if_pos hp, wrap_succ i (by omega), ih (i + 1) (by omega) k (by omega), drop_cons l i hlt, List.all_cons, hp, Bool.true_and]
    · rw [if_neg hp, drop_cons l i hlt, List.all_cons, Bool.eq_false_iff.mpr hp, Bool.false_and, Bool.false_and]
theorem sReceiverOk_ev (a : Int) (l : List (List Int)) (hl : l.length ≤ 1048576) (he : ∀ x ∈ l, SmallE x) (k : Nat) (hk : 2097155 < k) : spec_ReceiverOk.f k a l = some (recB a l) := sReceiverOk_l0 a l hl he l.length 0 (by omega) k (by omega)
theorem notBytes_eq (k : Nat) (hk : 40 < k) (x : List Int) : impl_areLists_1.f k x = some (!bytesB x) := by
  unfold impl_areLists_1.f
  rw [iAreBytes_ev x k hk]
  rfl
theorem cLists_l0 (l : List (List Int)) (hl : l.length ≤ 1048576) (d : Nat) : ∀ i : Nat, i + d = l.length → ∀ k, 41 + d < k → ∃ r, slices_IndexFunc_int_int_impl_areLists_1.l0 k l (l.length : Int) (i : Int) = some r ∧ decide (r ≥ 0) = (l.drop i).any (fun x => !bytesB x) := by
  induction d with
  | zero =>
    intro i hi k hk
    obtain ⟨k, rfl⟩ : ∃ m, k = m + 1 := ⟨k - 1, by omega⟩
    refine ⟨-1, ?_, ?_⟩
    · simp only [slices_IndexFunc_int_int_impl_areLists_1.l0]
      rw [if_neg (show ¬ (i : Int) < (l.length : Int) by omega)]
    · rw [drop_all l i (by omega)]; rfl
  | succ d ih =>
    intro i hi k hk
    obtain ⟨k, rfl⟩ : ∃ m, k = m + 1 := ⟨k - 1, by omega⟩
    have hlt : i < l.length := by omega
    simp only [slices_IndexFunc_int_int_impl_areLists_1.l0]
    rw [if_pos (show (i : Int) < (l.length : Int) by omega), if_pos (show (0 : Int) ≤ (i : Int) by omega), if_pos (show (i : Int) < (l.length : Int) by omega), rdL_lt l i hlt, notBytes_eq k (by omega) l[i]]
    simp only [Option.bind_some]
    by_cases hp : (fun x => !bytesB x) l[i] = true
    · rw [if_pos hp]
      exact ⟨_, rfl, by rw [any_drop_yes l i hlt _ hp, decide_eq_true (by omega)]⟩
    · rw [if_neg hp, wrap_succ i (by omega)]
      obtain ⟨r, h1, h2⟩ := ih (i + 1) (by omega) k (by omega)
      exact ⟨r, h1, by rw [h2, any_drop_no l i hlt _ hp]⟩
theorem cLists_ev (l : List (List Int)) (hl : l.length ≤ 1048576) (k : Nat) (hk : 41 + l.length < k) : slices_ContainsFunc_int_int_impl_areLists_1.f k l = some (l.any (fun x => !bytesB x)) := by
  obtain ⟨r, h1, h2⟩ := cLists_l0 l hl l.length 0 (by omega) k hk
  unfold slices_ContainsFunc_int_int_impl_areLists_1.f slices_IndexFunc_int_int_impl_areLists_1.f
  have c0 : ((0 : Nat) : Int) = 0 := rfl
  rw [c0] at h1
  rw [h1]
  simp only [Option.bind_some]
  rw [h2]; rfl
theorem iAreLists_ev (l : List (List Int)) (hl : l.length ≤ 1048576) (k : Nat) (hk : 1048620 < k) : impl_areLists.f k l = some (l.all bytesB) := by
  unfold impl_areLists.f
  rw [cLists_ev l hl k (by omega)]
  simp only [Option.bind_some]
  rw [any_not]
theorem iReceiverOk_ev (a : Int) (l : List (List Int)) (hl : l.length ≤ 1048576) (k : Nat) (hk : 1048620 < k) : impl_ReceiverOk.f k a l = some (recB a l) := by
  unfold impl_ReceiverOk.f recB
  rw [iIsSeq_eq]
  simp only [Option.bind_some]
  by_cases hs : seqB a = true
  · rw [if_pos hs, hs]
    by_cases h : (l.length : Int) ≤ 1000
    · rw [if_pos h, iAreLists_ev l hl k hk, decide_eq_true (show l.length ≤ 1000 by omega)]
      simp
    · rw [if_neg h, decide_eq_false (show ¬ l.length ≤ 1000 by omega)]
      simp
  · rw [if_neg hs, Bool.eq_false_iff.mpr hs]
    simp
theorem toReceiver_ev (a : Int) (l : List (List Int)) (hl : l.length ≤ 1048576) (he : ∀ x ∈ l, SmallE x) (k : Nat) (hk : 2097155 < k) : laws_toReceiver.f k a l = some (a, l) := by
  unfold laws_toReceiver.f
  rw [toIntSS_ev l hl he k (by omega)]
  rfl
theorem eqReceiver_ev (a : Int) (l : List (List Int)) (hl : l.length ≤ 1048576) (he : ∀ x ∈ l, SmallE x) (k : Nat) (hk : 2097155 < k) : laws_eqReceiver.f k a l a l = some true := by
  unfold laws_eqReceiver.f
  rw [if_pos rfl, eqIntSS_ev l l hl he k (by omega)]
  simp
theorem szReceiver_ev (a : Int) (l : List (List Int)) (left : Int) (h0 : 0 ≤ left) (h1 : left ≤ 1048576) (hm : l.length ≤ 9223372036854775807) (hw : ∀ x ∈ l, FitE x) : ∃ r, (∀ k, 1048577 ≤ k → laws_szReceiver.f k a l left = some r) ∧ r ≤ left ∧ (0 ≤ r → l.length ≤ 1048576 ∧ ∀ x ∈ l, SmallE x) := by
  obtain ⟨r, h2, h3, h4⟩ := szIntSS_ev l left h0 h1 hm hw
  by_cases h : r < 0
  · refine ⟨-1, fun k hk => ?_, by omega, fun h => by omega⟩
    unfold laws_szReceiver.f
    rw [h2 k hk]
    simp only [Option.bind_some]
    rw [if_pos h]
  · refine ⟨r, fun k hk => ?_, h3, h4⟩
    unfold laws_szReceiver.f
    rw [h2 k hk]
    simp only [Option.bind_some]
    rw [if_neg h]
theorem toFrame_ev (s : Int) (l : List Int) (hl : l.length ≤ 1048576) (k : Nat) (hk : 1048577 < k) : laws_toFrame.f k s l = some (s, l) := by
  unfold laws_toFrame.f
  rw [toIntS_ev l hl k (by omega)]
  rfl
theorem eqFrame_ev (s : Int) (l : List Int) (hl : l.length ≤ 1048576) (k : Nat) (hk : 1048577 < k) : laws_eqFrame.f k s l s l = some true := by
  unfold laws_eqFrame.f
  rw [if_pos rfl, eqIntS_ev l l (by omega) k (by omega)]
  simp
theorem szFrame_eq (s : Int) (l : List Int) (left : Int) (h0 : 0 ≤ left) (h1 : left ≤ 1048576) (hl : l.length ≤ 9223372036854775807) : ∃ r, laws_szFrame.f s l left = some r ∧ r ≤ left ∧ (0 ≤ r → r = left - l.length) := by
  unfold laws_szFrame.f
  rw [szIntS_eq l left h0 h1 hl]
  simp only [Option.bind_some]
  by_cases hx : left < l.length
  · rw [if_pos hx, if_pos (by omega)]
    exact ⟨_, rfl, by omega, fun h => by omega⟩
  · rw [if_neg hx, if_neg (by omega)]
    exact ⟨_, rfl, by omega, fun h => rfl⟩
def SmallF (x : S140) : Prop := x.f1.length ≤ 1048576
def FitF (x : S140) : Prop := x.f1.length ≤ 9223372036854775807
def SmallG (x : S63) : Prop := x.f1.length ≤ 1048576
/-- The same frame, once as the law holds it, once as the program does. -/
def cvF (x : S140) : S63 := ⟨x.f0, x.f1⟩
theorem cvF_small (l : List S140) (h : ∀ x ∈ l, SmallF x) : ∀ y ∈ l.map cvF, SmallG y := by
  intro y hy
  obtain ⟨x, hx, rfl⟩ := List.mem_map.1 hy
  exact h x hx
theorem rdF_lt (l : List (S140)) (i : Nat) (h : i < l.length) : rd_T140 l (i : Int) = l[i] := by
  show l.getD i z140 = l[i]
  simp [h]
theorem rdG_lt (l : List (S63)) (i : Nat) (h : i < l.length) : rd_T63 l (i : Int) = l[i] := by
  show l.getD i z63 = l[i]
  simp [h]
theorem szF (x : S140) (left : Int) (h0 : 0 ≤ left) (h1 : left ≤ 1048576) (hw : FitF x) : ∃ r, laws_szFrame.f x.f0 x.f1 left = some r ∧ r ≤ left ∧ (0 ≤ r → SmallF x) := by
  obtain ⟨r, e, hr, hr'⟩ := szFrame_eq x.f0 x.f1 left h0 h1 hw
  exact ⟨r, e, hr, fun h => by have := hr' h; unfold SmallF; omega⟩
theorem szFrameS_l0 (l : List (S140)) (hl : l.length ≤ 1048576) (hw : ∀ x ∈ l, FitF x) (d : Nat) : ∀ (i : Nat) (left : Int), 0 ≤ left → left ≤ 1048576 → i + d = l.length → ∃ r, (∀ k, d < k → laws_szFrameS.l0 k l left (i : Int) = some r) ∧ r ≤ left ∧ (0 ≤ r → ∀ x ∈ l.drop i, SmallF x) := by
  induction d with
  | zero =>
    intro i left h0 h1 hi
    refine ⟨left, fun k hk => ?_, Int.le_refl _, fun _ x hx => ?_⟩
    · obtain ⟨k, rfl⟩ : ∃ m, k = m + 1 := ⟨k - 1, by omega⟩
      simp only [laws_szFrameS.l0]
      rw [if_neg (show ¬ (i : Int) < (l.length : Int) by omega)]
    · rw [drop_all l i (by omega)] at hx; cases hx
  | succ d ih =>
    intro i left h0 h1 hi
    have hlt : i < l.length := by omega
    obtain ⟨q, e, hq1, hq2⟩ := szF l[i] left h0 h1 (hw _ (List.getElem_mem hlt))
    by_cases hq : q < 0
    · refine ⟨-1, fun k hk => ?_, by omega, fun h => by omega⟩
      obtain ⟨k, rfl⟩ : ∃ m, k = m + 1 := ⟨k - 1, by omega⟩
      simp only [laws_szFrameS.l0]
      rw [if_pos (show (i : Int) < (l.length : Int) by omega), if_pos (show (0 : Int) ≤ (i : Int) by omega), rdF_lt l i hlt, e]
      simp only [Option.bind_some]
      rw [if_pos hq]
    · obtain ⟨r, hr1, hr2, hr3⟩ := ih (i + 1) q (by omega) (by omega) (by omega)
      refine ⟨r, fun k hk => ?_, by omega, fun h x hx => ?_⟩
      · obtain ⟨k, rfl⟩ : ∃ m, k = m + 1 := ⟨k - 1, by omega⟩
        simp only [laws_szFrameS.l0]
        rw [if_pos (show (i : Int) < (l.length : Int) by omega), if_pos (show (0 : Int) ≤ (i : Int) by omega), rdF_lt l i hlt, e]
        simp only [Option.bind_some]
        rw [if_neg hq, wrap_succ i (by omega)]
        exact hr1 k (by omega)
      · rw [drop_cons l i hlt] at hx
        rcases List.mem_cons.1 hx with rfl | hx
        · exact hq2 (by omega)
        · exact hr3 h x hx
theorem szFrameS_ev (l : List (S140)) (left : Int) (h0 : 0 ≤ left) (h1 : left ≤ 1048576) (hm : l.length ≤ 9223372036854775807) (hw : ∀ x ∈ l, FitF x) : ∃ r, (∀ k, 1048577 ≤ k → laws_szFrameS.f k l left = some r) ∧ r ≤ left ∧ (0 ≤ r → l.length ≤ 1048576 ∧ ∀ x ∈ l, SmallF x) := by
  unfold laws_szFrameS.f
  rw [wrap_id _ (by omega)]
  by_cases h : left - (l.length : Int) < 0
  · refine ⟨-1, fun k hk => ?_, by omega, fun h => by omega⟩
    rw [if_pos h]
  · obtain ⟨r, hr1, hr2, hr3⟩ := szFrameS_l0 l (by omega) hw l.length 0 (left - (l.length : Int)) (by omega) (by omega) (by omega)
    refine ⟨r, fun k hk => ?_, by omega, fun h => ⟨by omega, fun x hx => hr3 h x (by simpa using hx)⟩⟩
    rw [if_neg h]
    exact hr1 k (by omega)
theorem toFrameS_l0 (l : List S140) (hb : l.length ≤ 1048576) (he : ∀ x ∈ l, SmallF x) (d : Nat) : ∀ (x : List S63) (i : Nat), x.length = l.length → x.take i = (l.map cvF).take i → i + d = l.length → ∀ k, 1048590 + d < k → laws_toFrameS.l0 k l x (i : Int) = some (l.map cvF) := by
  induction d with
  | zero =>
    intro x i hx ht hi k hk
    obtain ⟨k, rfl⟩ : ∃ m, k = m + 1 := ⟨k - 1, by omega⟩
    simp only [laws_toFrameS.l0]
    rw [if_neg (show ¬ (i : Int) < (l.length : Int) by omega), fill_end x (l.map cvF) i (by simp [hx]) (by simp; omega) ht]
  | succ d ih =>
    intro x i hx ht hi k hk
    obtain ⟨k, rfl⟩ : ∃ m, k = m + 1 := ⟨k - 1, by omega⟩
    have hlt : i < l.length := by omega
    have hs := he _ (List.getElem_mem hlt)
    unfold SmallF at hs
    simp only [laws_toFrameS.l0]
    rw [if_pos (show (i : Int) < (l.length : Int) by omega), if_pos (show (0 : Int) ≤ (i : Int) by omega), rdF_lt l i hlt, toFrame_ev l[i].f0 l[i].f1 hs k (by omega)]
    simp only [Option.bind_some]
    rw [if_pos (show (i : Int) < (x.length : Int) by omega), wrap_succ i (by omega), toNat_nat]
    exact ih _ (i + 1) (by simp [hx]) (fill_step x (l.map cvF) i _ (by omega) (by simp; omega) ht (by rw [List.getElem_map]; rfl)) (by omega) k (by omega)
theorem toFrameS_ev (l : List S140) (hb : l.length ≤ 1048576) (he : ∀ x ∈ l, SmallF x) : ∀ k, 2097170 < k → laws_toFrameS.f k l = some (l.map cvF) := by
  intro k hk
  unfold laws_toFrameS.f
  rw [if_pos (by omega), if_pos (by omega)]
  exact toFrameS_l0 l hb he l.length _ 0 (by simp) (by simp) (by omega) k (by omega)
theorem eqFrameS_l0 (l : List S63) (hb : l.length ≤ 1048576) (he : ∀ x ∈ l, SmallG x) (d : Nat) : ∀ (i : Nat), i + d = l.length → ∀ k, 1048590 + d < k → laws_eqFrameS.l0 k l l (i : Int) = some true := by
  induction d with
  | zero =>
    intro i hi k hk
    obtain ⟨k, rfl⟩ : ∃ m, k = m + 1 := ⟨k - 1, by omega⟩
    simp only [laws_eqFrameS.l0]
    rw [if_neg (show ¬ (i : Int) < (l.length : Int) by omega)]
  | succ d ih =>
    intro i hi k hk
    obtain ⟨k, rfl⟩ : ∃ m, k = m + 1 := ⟨k - 1, by omega⟩
    have hlt : i < l.length := by omega
    have hs := he _ (List.getElem_mem hlt)
    unfold SmallG at hs
    simp only [laws_eqFrameS.l0]
    rw [if_pos (show (i : Int) < (l.length : Int) by omega), if_pos (show (0 : Int) ≤ (i : Int) by omega), if_pos (show (i : Int) < (l.length : Int) by omega), rdG_lt l i hlt, eqFrame_ev l[i].f0 l[i].f1 hs k (by omega)]
    simp only [Option.bind_some, if_true]
    rw [wrap_succ i (by omega)]
    exact ih (i + 1) (by omega) k (by omega)
theorem eqFrameS_ev (l : List S63) (hb : l.length ≤ 1048576) (he : ∀ x ∈ l, SmallG x) : ∀ k, 2097170 < k → laws_eqFrameS.f k l l = some true := by
  intro k hk
  unfold laws_eqFrameS.f
  rw [if_pos rfl]
  exact eqFrameS_l0 l hb he l.length 0 (by omega) k (by omega)
/-- How far the second number stands behind the first, round the ring; -1 where one is none. -/
def sdI (a b : Int) : Int := if seqB a = true then (if seqB b = true then Int.tmod (wrap64 ((wrap64 (b - a)) + 16)) 16 else -1) else -1
theorem sSeqDist_eq (a b : Int) : spec_SeqDistance.f a b = some (sdI a b) := by
  unfold spec_SeqDistance.f sdI
  rw [sIsSeq_eq, sIsSeq_eq]
  cases seqB a <;> cases seqB b <;> rfl
theorem iSeqDist_eq (a b : Int) : impl_SeqDistance.f a b = some (sdI a b) := by
  unfold impl_SeqDistance.f sdI
  rw [iIsSeq_eq, iIsSeq_eq]
  cases seqB a <;> cases seqB b <;> rfl
def frOk (s : Int) (n : Nat) : Nat → List S63 → Bool
  | _, [] => true
  | i, x :: r => decide (sdI x.f0 s = wrap64 ((n : Int) - (i : Int))) && (bytesB x.f1 && frOk s n (i + 1) r)
def sndB (s : Int) (l : List S63) (r : Int) : Bool := seqB s && (decide (l.length ≤ 7) && (decide (0 ≤ r ∧ r ≤ (l.length : Int)) && frOk s l.length 0 l))
theorem spec_frames (s : Int) (l : List S63) (r : Int) (hl : l.length ≤ 7) (hs : ∀ x ∈ l, SmallG x) (d : Nat) : ∀ i : Nat, i + d = l.length → ∀ k, 1048600 + d < k → spec_SenderOk.l0 k (l.length : Int) (i : Int) s l r = some (frOk s l.length i (l.drop i)) := by
  induction d with
  | zero =>
    intro i hi k hk
    obtain ⟨k, rfl⟩ : ∃ m, k = m + 1 := ⟨k - 1, by omega⟩
    simp only [spec_SenderOk.l0]
    rw [if_neg (show ¬ (i : Int) < (l.length : Int) by omega), drop_all l i (by omega)]
    rfl
  | succ d ih =>
    intro i hi k hk
    obtain ⟨k, rfl⟩ : ∃ m, k = m + 1 := ⟨k - 1, by omega⟩
    have hlt : i < l.length := by omega
    have hsm := hs _ (List.getElem_mem hlt)
    unfold SmallG at hsm
    have ih := ih (i + 1) (by omega) k (by omega)
    simp only [spec_SenderOk.l0]
    rw [if_pos (show (i : Int) < (l.length : Int) by omega), if_pos (show (0 : Int) ≤ (i : Int) by omega), if_pos (show (i : Int) < (l.length : Int) by omega), rdG_lt l i hlt, sSeqDist_eq, drop_cons l i hlt]
    simp only [Option.bind_some, frOk]
    by_cases hd : sdI l[i].f0 s = wrap64 ((l.length : Int) - (i : Int))
    · rw [if_pos hd, decide_eq_true hd, sAreBytes_ev l[i].f1 hsm k (by omega)]
      simp only [Option.bind_some]
      by_cases hb : bytesB l[i].f1 = true
      · rw [if_pos hb, hb, wrap_succ i (by omega), ih]
        rfl
      · rw [if_neg hb, Bool.eq_false_iff.mpr hb]
        rfl
    · rw [if_neg hd, decide_eq_false hd]
      rfl
theorem impl_frames (s : Int) (l : List S63) (r : Int) (hl : l.length ≤ 7) (hs : ∀ x ∈ l, SmallG x) (d : Nat) : ∀ i : Nat, i + d = l.length → ∀ k, 1048600 + d < k → impl_SenderOk.l0 k (l.length : Int) l (l.length : Int) (i : Int) s l r = some (frOk s l.length i (l.drop i)) := by
  induction d with
  | zero =>
    intro i hi k hk
    obtain ⟨k, rfl⟩ : ∃ m, k = m + 1 := ⟨k - 1, by omega⟩
    simp only [impl_SenderOk.l0]
    rw [if_neg (show ¬ (i : Int) < (l.length : Int) by omega), drop_all l i (by omega)]
    rfl
  | succ d ih =>
    intro i hi k hk
    obtain ⟨k, rfl⟩ : ∃ m, k = m + 1 := ⟨k - 1, by omega⟩
    have hlt : i < l.length := by omega
    have hsm := hs _ (List.getElem_mem hlt)
    unfold SmallG at hsm
    have ih := ih (i + 1) (by omega) k (by omega)
    simp only [impl_SenderOk.l0]
    rw [if_pos (show (i : Int) < (l.length : Int) by omega), if_pos (show (0 : Int) ≤ (i : Int) by omega), if_pos (show (i : Int) < (l.length : Int) by omega), rdG_lt l i hlt, iSeqDist_eq, drop_cons l i hlt]
    simp only [Option.bind_some, frOk]
    by_cases hd : sdI l[i].f0 s = wrap64 ((l.length : Int) - (i : Int))
    · rw [if_pos hd, decide_eq_true hd, iAreBytes_ev l[i].f1 k (by omega)]
      simp only [Option.bind_some]
      by_cases hb : bytesB l[i].f1 = true
      · rw [if_pos hb, hb, wrap_succ i (by omega), ih]
        rfl
      · rw [if_neg hb, Bool.eq_false_iff.mpr hb]
        rfl
    · rw [if_neg hd, decide_eq_false hd]
      rfl
theorem sSenderOk_ev (s : Int) (l : List S63) (r : Int) (hs : ∀ x ∈ l, SmallG x) (k : Nat) (hk : 1048700 < k) : spec_SenderOk.f k s l r = some (sndB s l r) := by
  obtain ⟨k, rfl⟩ : ∃ m, k = m + 1 := ⟨k - 1, by omega⟩
  unfold spec_SenderOk.f sndB
  rw [sIsSeq_eq]
  simp only [Option.bind_some]
  by_cases h1 : seqB s = true
  · rw [if_pos h1, h1]
    by_cases h2 : l.length ≤ 7
    · rw [if_neg (by omega), l01In_eq, decide_eq_true h2]
      simp only [Option.bind_some, spec_SenderOk.j0]
      by_cases h3 : 0 ≤ r ∧ r ≤ (l.length : Int)
      · rw [decide_eq_true h3, if_neg (by decide)]
        have h := spec_frames s l r h2 hs l.length 0 (by omega) k (by omega)
        have c0 : ((0 : Nat) : Int) = 0 := rfl
        rw [c0] at h
        rw [h]
        rfl
      · rw [decide_eq_false h3, if_pos (by decide)]
        rfl
    · rw [if_pos (by omega), decide_eq_false h2]
      simp only [spec_SenderOk.j0]
      rfl
  · rw [if_neg h1, Bool.eq_false_iff.mpr h1]
    simp only [spec_SenderOk.j0]
    rfl
theorem iSenderOk_ev (s : Int) (l : List S63) (r : Int) (hs : ∀ x ∈ l, SmallG x) (k : Nat) (hk : 1048700 < k) : impl_SenderOk.f k s l r = some (sndB s l r) := by
  obtain ⟨k, rfl⟩ : ∃ m, k = m + 1 := ⟨k - 1, by omega⟩
  unfold impl_SenderOk.f sndB
  rw [iIsSeq_eq]
  simp only [Option.bind_some]
  by_cases h1 : seqB s = true
  · rw [if_pos h1, h1]
    by_cases h2 : l.length ≤ 7
    · rw [if_neg (by omega), within_eq, decide_eq_true h2]
      simp only [Option.bind_some, impl_SenderOk.j0]
      by_cases h3 : 0 ≤ r ∧ r ≤ (l.length : Int)
      · rw [decide_eq_true h3, if_neg (by decide)]
        have h := impl_frames s l r h2 hs l.length 0 (by omega) k (by omega)
        have c0 : ((0 : Nat) : Int) = 0 := rfl
        rw [c0] at h
        rw [h]
        rfl
      · rw [decide_eq_false h3, if_pos (by decide)]
        rfl
    · rw [if_pos (by omega), decide_eq_false h2]
      simp only [impl_SenderOk.j0]
      rfl
  · rw [if_neg h1, Bool.eq_false_iff.mpr h1]
    simp only [impl_SenderOk.j0]
    rfl
def ackB (v : Int) : Bool := seqB v || decide (100 ≤ v ∧ v ≤ 115)
def lnkB (s : Int) (l : List S63) (r e : Int) (h w : List (List Int)) (a : List Int) : Bool := sndB s l r && (recB e h && (decide (w.length ≤ 8) && (decide (a.length ≤ 8) && (w.all bytesB && a.all ackB))))
theorem ack_low (v : Int) (h : -9223372036854775808 ≤ v ∧ v ≤ 9223372036854775807) : seqB (wrap64 (v - 100)) = decide (100 ≤ v ∧ v ≤ 115) := by
  unfold seqB
  rw [decide_eq_decide]
  unfold wrap64
  omega
theorem notAck_eq (v : Int) : impl_LinkOk_1.f v = some (!ackB v) := by
  unfold impl_LinkOk_1.f ackB
  rw [iIsSeq_eq, within_eq]
  cases seqB v <;> rfl
theorem sAcks_l1 (s : Int) (f : List S63) (r e : Int) (h w : List (List Int)) (l : List Int) (hl : l.length ≤ 8) (hr : ∀ v ∈ l, -9223372036854775808 ≤ v ∧ v ≤ 9223372036854775807) (d : Nat) : ∀ i : Nat, i + d = l.length → ∀ k, d < k → spec_LinkOk.l1 k (i : Int) s f r e h w l = some ((l.drop i).all ackB) := by
  induction d with
  | zero =>
    intro i hi k hk
    obtain ⟨k, rfl⟩ : ∃ m, k = m + 1 := ⟨k - 1, by omega⟩
    simp only [spec_LinkOk.l1]
    rw [if_neg (show ¬ (i : Int) < (l.length : Int) by omega), drop_all l i (by omega)]
    rfl
  | succ d ih =>
    intro i hi k hk
    obtain ⟨k, rfl⟩ : ∃ m, k = m + 1 := ⟨k - 1, by omega⟩
    have hlt : i < l.length := by omega
    have ih := ih (i + 1) (by omega) k (by omega)
    simp only [spec_LinkOk.l1]
    rw [if_pos (show (i : Int) < (l.length : Int) by omega), if_pos (show (0 : Int) ≤ (i : Int) by omega), rd_lt l i hlt, sIsSeq_eq, sIsSeq_eq, ack_low _ (hr _ (List.getElem_mem hlt)), drop_cons l i hlt, List.all_cons, wrap_succ i (by omega), ih]
    simp only [Option.bind_some]
    have hb : ackB l[i] = (seqB l[i] || decide (100 ≤ l[i] ∧ l[i] ≤ 115)) := rfl
    rw [hb]
    cases seqB l[i] <;> cases decide (100 ≤ l[i] ∧ l[i] ≤ 115) <;> rfl
theorem sWires_l0 (s : Int) (f : List S63) (r e : Int) (h l : List (List Int)) (a : List Int) (hl : l.length ≤ 8) (hs : ∀ x ∈ l, SmallE x) (ha : a.length ≤ 8) (hr : ∀ v ∈ a, -9223372036854775808 ≤ v ∧ v ≤ 9223372036854775807) (d : Nat) : ∀ i : Nat, i + d = l.length → ∀ k, 1048600 + d < k → spec_LinkOk.l0 k (i : Int) s f r e h l a = some ((l.drop i).all bytesB && a.all ackB) := by
  induction d with
  | zero =>
    intro i hi k hk
    obtain ⟨k, rfl⟩ : ∃ m, k = m + 1 := ⟨k - 1, by omega⟩
    have h1 := sAcks_l1 s f r e h l a ha hr a.length 0 (by omega) k (by omega)
    have c0 : ((0 : Nat) : Int) = 0 := rfl
    rw [c0] at h1
    simp only [spec_LinkOk.l0]
    rw [if_neg (show ¬ (i : Int) < (l.length : Int) by omega), drop_all l i (by omega), h1]
    rfl
  | succ d ih =>
    intro i hi k hk
    obtain ⟨k, rfl⟩ : ∃ m, k = m + 1 := ⟨k - 1, by omega⟩
    have hlt : i < l.length := by omega
    have hsm := hs _ (List.getElem_mem hlt)
    unfold SmallE at hsm
    have ih := ih (i + 1) (by omega) k (by omega)
    simp only [spec_LinkOk.l0]
    rw [if_pos (show (i : Int) < (l.length : Int) by omega), if_pos (show (0 : Int) ≤ (i : Int) by omega), rdL_lt l i hlt, sAreBytes_ev l[i] hsm k (by omega), drop_cons l i hlt, List.all_cons, wrap_succ i (by omega), ih]
    simp only [Option.bind_some]
    cases bytesB l[i] <;> rfl
theorem sLinkOk_ev (s : Int) (f : List S63) (r e : Int) (h w : List (List Int)) (a : List Int) (hf : ∀ x ∈ f, SmallG x) (hh : h.length ≤ 1048576) (hsh : ∀ x ∈ h, SmallE x) (hsw : ∀ x ∈ w, SmallE x) (hr : ∀ v ∈ a, -9223372036854775808 ≤ v ∧ v ≤ 9223372036854775807) (k : Nat) (hk : 2097200 < k) : spec_LinkOk.f k s f r e h w a = some (lnkB s f r e h w a) := by
  unfold spec_LinkOk.f lnkB
  rw [sSenderOk_ev s f r hf k (by omega), sReceiverOk_ev e h hh hsh k (by omega)]
  obtain ⟨k, rfl⟩ : ∃ m, k = m + 1 := ⟨k - 1, by omega⟩
  simp only [Option.bind_some, spec_LinkOk.j0]
  cases sndB s f r
  · rfl
  cases recB e h
  · rfl
  by_cases h1 : w.length ≤ 8
  · by_cases h2 : a.length ≤ 8
    · have h3 := sWires_l0 s f r e h w a h1 hsw h2 hr w.length 0 (by omega) k (by omega)
      have c0 : ((0 : Nat) : Int) = 0 := rfl
      rw [c0] at h3
      rw [if_pos rfl, if_pos rfl, if_neg (by omega), if_neg (by simp; omega), h3, decide_eq_true h1, decide_eq_true h2]
      rfl
    · rw [if_pos rfl, if_pos rfl, if_neg (by omega), if_pos (by simp; omega), decide_eq_true h1, decide_eq_false h2]
      rfl
  · rw [if_pos rfl, if_pos rfl, if_pos (by omega), if_pos trivial, decide_eq_false h1]
    rfl
theorem cAcks_l0 (l : List (Int)) (hl : l.length ≤ 1048576) (d : Nat) : ∀ i : Nat, i + d = l.length → ∀ k, 0 + d < k → ∃ r, slices_IndexFunc_int_int_impl_LinkOk_1.l0 k l (l.length : Int) (i : Int) = some r ∧ decide (r ≥ 0) = (l.drop i).any (fun x => !ackB x) := by
  induction d with
  | zero =>
    intro i hi k hk
    obtain ⟨k, rfl⟩ : ∃ m, k = m + 1 := ⟨k - 1, by omega⟩
    refine ⟨-1, ?_, ?_⟩
    · simp only [slices_IndexFunc_int_int_impl_LinkOk_1.l0]
      rw [if_neg (show ¬ (i : Int) < (l.length : Int) by omega)]
    · rw [drop_all l i (by omega)]; rfl
  | succ d ih =>
    intro i hi k hk
    obtain ⟨k, rfl⟩ : ∃ m, k = m + 1 := ⟨k - 1, by omega⟩
    have hlt : i < l.length := by omega
    simp only [slices_IndexFunc_int_int_impl_LinkOk_1.l0]
    rw [if_pos (show (i : Int) < (l.length : Int) by omega), if_pos (show (0 : Int) ≤ (i : Int) by omega), if_pos (show (i : Int) < (l.length : Int) by omega), rd_lt l i hlt, notAck_eq l[i]]
    simp only [Option.bind_some]
    by_cases hp : (fun x => !ackB x) l[i] = true
    · rw [if_pos hp]
      exact ⟨_, rfl, by rw [any_drop_yes l i hlt _ hp, decide_eq_true (by omega)]⟩
    · rw [if_neg hp, wrap_succ i (by omega)]
      obtain ⟨r, h1, h2⟩ := ih (i + 1) (by omega) k (by omega)
      exact ⟨r, h1, by rw [h2, any_drop_no l i hlt _ hp]⟩
theorem cAcks_ev (l : List (Int)) (hl : l.length ≤ 1048576) (k : Nat) (hk : 0 + l.length < k) : slices_ContainsFunc_int_int_impl_LinkOk_1.f k l = some (l.any (fun x => !ackB x)) := by
  obtain ⟨r, h1, h2⟩ := cAcks_l0 l hl l.length 0 (by omega) k hk
  unfold slices_ContainsFunc_int_int_impl_LinkOk_1.f slices_IndexFunc_int_int_impl_LinkOk_1.f
  have c0 : ((0 : Nat) : Int) = 0 := rfl
  rw [c0] at h1
  rw [h1]
  simp only [Option.bind_some]
  rw [h2]; rfl
theorem iLinkOk_ev (s : Int) (f : List S63) (r e : Int) (h w : List (List Int)) (a : List Int) (hf : ∀ x ∈ f, SmallG x) (hh : h.length ≤ 1048576) (hw : w.length ≤ 1048576) (k : Nat) (hk : 2097200 < k) : impl_LinkOk.f k s f r e h w a = some (lnkB s f r e h w a) := by
  unfold impl_LinkOk.f lnkB
  rw [iSenderOk_ev s f r hf k (by omega), iReceiverOk_ev e h hh k (by omega), iAreLists_ev w hw k (by omega)]
  simp only [Option.bind_some]
  cases sndB s f r
  · rfl
  cases recB e h
  · rfl
  by_cases h1 : w.length ≤ 8
  · by_cases h2 : a.length ≤ 8
    · rw [if_pos rfl, if_pos rfl, if_pos (show (w.length : Int) ≤ 8 by omega), if_pos (show (a.length : Int) ≤ 8 by omega), cAcks_ev a (by omega) k (by omega), decide_eq_true h1, decide_eq_true h2]
      simp only [Option.bind_some]
      rw [any_not]
      cases w.all bytesB <;> rfl
    · rw [if_pos rfl, if_pos rfl, if_pos (show (w.length : Int) ≤ 8 by omega), if_neg (show ¬ (a.length : Int) ≤ 8 by omega), decide_eq_true h1, decide_eq_false h2]
      cases w.all bytesB <;> rfl
  · rw [if_pos rfl, if_pos rfl, if_neg (show ¬ (w.length : Int) ≤ 8 by omega), decide_eq_false h1]
    cases w.all bytesB <;> rfl
theorem szSender_ev (s : Int) (l : List S140) (r left : Int) (h0 : 0 ≤ left) (h1 : left ≤ 1048576) (hm : l.length ≤ 9223372036854775807) (hw : ∀ x ∈ l, FitF x) : ∃ q, (∀ k, 1048577 ≤ k → laws_szSender.f k s l r left = some q) ∧ q ≤ left ∧ (0 ≤ q → l.length ≤ 1048576 ∧ ∀ x ∈ l, SmallF x) := by
  obtain ⟨q, h2, h3, h4⟩ := szFrameS_ev l left h0 h1 hm hw
  by_cases h : q < 0
  · refine ⟨-1, fun k hk => ?_, by omega, fun h => by omega⟩
    unfold laws_szSender.f
    rw [h2 k hk]
    simp only [Option.bind_some]
    rw [if_pos h]
  · refine ⟨q, fun k hk => ?_, h3, h4⟩
    unfold laws_szSender.f
    rw [h2 k hk]
    simp only [Option.bind_some]
    rw [if_neg h]
theorem szLink_ev (s : Int) (f : List S140) (r e : Int) (h w : List (List Int)) (a : List Int) (left : Int) (g0 : 0 ≤ left) (g1 : left ≤ 1048576) (mf : f.length ≤ 9223372036854775807) (ff : ∀ x ∈ f, FitF x) (mh : h.length ≤ 9223372036854775807) (fh : ∀ x ∈ h, FitE x) (mw : w.length ≤ 9223372036854775807) (fw : ∀ x ∈ w, FitE x) (ma : a.length ≤ 9223372036854775807) : ∃ q, (∀ k, 1048577 ≤ k → laws_szLink.f k s f r e h w a left = some q) ∧ (0 ≤ q → (f.length ≤ 1048576 ∧ ∀ x ∈ f, SmallF x) ∧ (h.length ≤ 1048576 ∧ ∀ x ∈ h, SmallE x) ∧ (w.length ≤ 1048576 ∧ ∀ x ∈ w, SmallE x) ∧ a.length ≤ 1048576) := by
  obtain ⟨q1, e1, a1, b1⟩ := szSender_ev s f r left g0 g1 mf ff
  by_cases h1 : q1 < 0
  · refine ⟨-1, fun k hk => ?_, fun h => by omega⟩
    unfold laws_szLink.f
    rw [e1 k hk]
    simp only [Option.bind_some]
    rw [if_pos h1]
  obtain ⟨q2, e2, a2, b2⟩ := szReceiver_ev e h q1 (by omega) (by omega) mh fh
  by_cases h2 : q2 < 0
  · refine ⟨-1, fun k hk => ?_, fun h => by omega⟩
    unfold laws_szLink.f
    rw [e1 k hk]
    simp only [Option.bind_some]
    rw [if_neg h1, e2 k hk]
    simp only [Option.bind_some]
    rw [if_pos h2]
  obtain ⟨q3, e3, a3, b3⟩ := szIntSS_ev w q2 (by omega) (by omega) mw fw
  by_cases h3 : q3 < 0
  · refine ⟨-1, fun k hk => ?_, fun h => by omega⟩
    unfold laws_szLink.f
    rw [e1 k hk]
    simp only [Option.bind_some]
    rw [if_neg h1, e2 k hk]
    simp only [Option.bind_some]
    rw [if_neg h2, e3 k hk]
    simp only [Option.bind_some]
    rw [if_pos h3]
  obtain ⟨q4, e4, b4⟩ : ∃ q, laws_szIntS.f a q3 = some q ∧ (0 ≤ q → a.length ≤ 1048576) := by
    refine ⟨_, szIntS_eq a q3 (by omega) (by omega) ma, fun h => ?_⟩
    split at h <;> omega
  by_cases h4 : q4 < 0
  · refine ⟨-1, fun k hk => ?_, fun h => by omega⟩
    unfold laws_szLink.f
    rw [e1 k hk]
    simp only [Option.bind_some]
    rw [if_neg h1, e2 k hk]
    simp only [Option.bind_some]
    rw [if_neg h2, e3 k hk]
    simp only [Option.bind_some]
    rw [if_neg h3, e4]
    simp only [Option.bind_some]
    rw [if_pos h4]
  · refine ⟨q4, fun k hk => ?_, fun h => ⟨b1 (by omega), b2 (by omega), b3 (by omega), b4 (by omega)⟩⟩
    unfold laws_szLink.f
    rw [e1 k hk]
    simp only [Option.bind_some]
    rw [if_neg h1, e2 k hk]
    simp only [Option.bind_some]
    rw [if_neg h2, e3 k hk]
    simp only [Option.bind_some]
    rw [if_neg h3, e4]
    simp only [Option.bind_some]
    rw [if_neg h4]
theorem toLink_ev (s : Int) (f : List S140) (r e : Int) (h w : List (List Int)) (a : List Int) (hf : f.length ≤ 1048576) (sf : ∀ x ∈ f, SmallF x) (hh : h.length ≤ 1048576) (sh : ∀ x ∈ h, SmallE x) (hw : w.length ≤ 1048576) (sw : ∀ x ∈ w, SmallE x) (ha : a.length ≤ 1048576) (k : Nat) (hk : 2097200 < k) : laws_toLink.f k s f r e h w a = some (s, f.map cvF, r, e, h, w, a) := by
  unfold laws_toLink.f laws_toSender.f
  rw [toFrameS_ev f hf sf k (by omega), toReceiver_ev e h hh sh k (by omega), toIntSS_ev w hw sw k (by omega), toIntS_ev a ha k (by omega)]
  rfl
theorem eqLink_ev (s : Int) (f : List S63) (r e : Int) (h w : List (List Int)) (a : List Int) (hf : f.length ≤ 1048576) (sf : ∀ x ∈ f, SmallG x) (hh : h.length ≤ 1048576) (sh : ∀ x ∈ h, SmallE x) (hw : w.length ≤ 1048576) (sw : ∀ x ∈ w, SmallE x) (ha : a.length ≤ 1048576) (k : Nat) (hk : 2097200 < k) : laws_eqLink.f k s f r e h w a s f r e h w a = some true := by
  unfold laws_eqLink.f laws_eqSender.f
  rw [if_pos rfl, eqFrameS_ev f hf sf k (by omega), if_pos rfl, eqReceiver_ev e h hh sh k (by omega), eqIntSS_ev w w hw sw k (by omega), eqIntS_ev a a (by omega) k (by omega)]
  simp
theorem FnExactLinkOk : laws_FnExactLinkOk.Pure := by
  intro s f r e h w a _ ⟨mf, ff⟩ _ _ ⟨mh, fh⟩ ⟨mw, fw⟩ ⟨ma, fa⟩
  obtain ⟨q, e1, e2⟩ := szLink_ev s f r e h w a 1048576 (by omega) (by omega) mf (fun x hx => (ff x hx).2.1) mh (fun x hx => (fh x hx).1) mw (fun x hx => (fw x hx).1) ma
  refine ⟨2097300, ?_⟩
  unfold laws_FnExactLinkOk.f
  rw [e1 _ (by omega)]
  simp only [Option.bind_some]
  by_cases h0 : q < 0
  · rw [if_pos h0]
  obtain ⟨⟨hf, sf⟩, ⟨hh, sh⟩, ⟨hw, sw⟩, ha⟩ := e2 (by omega)
  rw [if_neg h0, toLink_ev s f r e h w a hf sf hh sh hw sw ha _ (by omega)]
  simp only [Option.bind_some]
  have hf' : (f.map cvF).length ≤ 1048576 := by rw [List.length_map]; exact hf
  rw [sLinkOk_ev s _ r e h w a (cvF_small f sf) hh sh sw (fun v hv => Go.bounds_i64 (fa v hv)) _ (by omega), iLinkOk_ev s _ r e h w a (cvF_small f sf) hh hw _ (by omega)]
  simp only [Option.bind_some, bne_self_eq_false, Bool.false_eq_true, if_false]
  rw [eqLink_ev s _ r e h w a hf' (cvF_small f sf) hh sh hw sw ha _ (by omega)]
  rfl

end Go.Proofs.Ytojipnenoiiadaa.Pure
