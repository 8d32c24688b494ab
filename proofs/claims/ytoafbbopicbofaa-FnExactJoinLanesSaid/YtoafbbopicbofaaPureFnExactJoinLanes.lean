/- The statement FnExactJoinLanes over lists of lists of whole numbers: the program and the reference put the bytes of lanes together alike, neither changes what it is given, and the program's answer shares no memory with its arguments or with the answer of another call. Lists that are longer than the law's own bound are let by, as the law itself does. -/
import Derived.Test.YtoafbbopicbofaaPFnExactJoinLanesx6
import Derived.Test.YtoafbbopicbofaaXLists
namespace Go.Proofs.Ytoafbbopicbofaa.Pure
set_option linter.unusedVariables false
set_option linter.unusedSimpArgs false
open Go.RowKit Go.Proofs.Ytoafbbopicbofaa.PFnExactJoinLanes Go.Proofs.YtoafbbopicbofaaW.PrintWords Go.Proofs.YtoafbbopicbofaaW.PrintLast Go.Proofs.YtoafbbopicbofaaW.PrintMore Go.Proofs.YtoafbbopicbofaaX

theorem within_eq (a l m : Int) : impl_within.f a l m = some (decide (l ≤ a ∧ a ≤ m)) := by
  unfold impl_within.f
  by_cases h : a ≥ l
  · have h' : l ≤ a := h
    rw [if_pos h]; simp [h']
  · have h' : ¬ l ≤ a := h
    rw [if_neg h]; simp [h']
theorem l01In_eq (a l m : Int) : spec_l01In.f a l m = some (decide (l ≤ a ∧ a ≤ m)) := by
  unfold spec_l01In.f
  by_cases h : a ≥ l
  · have h' : l ≤ a := h
    rw [if_pos h]; simp [h']
  · have h' : ¬ l ≤ a := h
    rw [if_neg h]; simp [h']
theorem any_not {α : Type} (l : List α) (p : α → Bool) : (!l.any fun x => !p x) = l.all p := by
  induction l with
  | nil => rfl
  | cons a l ih => rw [List.any_cons, List.all_cons, Bool.not_or, ih, Bool.not_not]
/-- A row that is no longer than the law's bound. -/
def SmallE (x : List Int) : Prop := x.length ≤ 1048576
def FitE (x : List Int) : Prop := x.length ≤ 9223372036854775807
theorem rdL_lt (l : List (List Int)) (i : Nat) (h : i < l.length) : rd_L1 l (i : Int) = l[i] := by
  show l.getD i [] = l[i]
  simp [h]
theorem szIntS_eq (l : List Int) (left : Int) (h0 : 0 ≤ left) (h1 : left ≤ 1048576) (hl : l.length ≤ 9223372036854775807) : laws_szIntS.f l left = some (if left < l.length then -1 else left - l.length) := by
  unfold laws_szIntS.f
  rw [wrap_id _ (by omega)]
  by_cases h : left < l.length
  · rw [if_pos (by omega), if_pos h]
  · rw [if_neg (by omega), if_neg h]
theorem szE (x : List Int) (left : Int) (h0 : 0 ≤ left) (h1 : left ≤ 1048576) (hw : FitE x) : ∃ r, laws_szIntS.f x left = some r ∧ r ≤ left ∧ (0 ≤ r → SmallE x) := by
  unfold FitE at hw
  refine ⟨_, szIntS_eq x left h0 h1 hw, ?_, fun h => ?_⟩
  · split <;> omega
  · unfold SmallE
    split at h <;> omega
theorem szIntSS_l0 (l : List (List Int)) (hl : l.length ≤ 1048576) (hw : ∀ x ∈ l, FitE x) (d : Nat) : ∀ (i : Nat) (left : Int), 0 ≤ left → left ≤ 1048576 → i + d = l.length → ∃ r, (∀ k, d < k → laws_szIntSS.l0 k l left (i : Int) = some r) ∧ r ≤ left ∧ (0 ≤ r → ∀ x ∈ l.drop i, SmallE x) := by
  induction d with
  | zero =>
    intro i left h0 h1 hi
    refine ⟨left, fun k hk => ?_, Int.le_refl _, fun _ x hx => ?_⟩
    · obtain ⟨k, rfl⟩ : ∃ m, k = m + 1 := ⟨k - 1, by omega⟩
      simp only [laws_szIntSS.l0]
      rw [if_neg (show ¬ (i : Int) < (l.length : Int) by omega)]
    · rw [drop_all l i (by omega)] at hx; cases hx
  | succ d ih =>
    intro i left h0 h1 hi
    have hlt : i < l.length := by omega
    obtain ⟨q, e, hq1, hq2⟩ := szE l[i] left h0 h1 (hw _ (List.getElem_mem hlt))
    by_cases hq : q < 0
    · refine ⟨-1, fun k hk => ?_, by omega, fun h => by omega⟩
      obtain ⟨k, rfl⟩ : ∃ m, k = m + 1 := ⟨k - 1, by omega⟩
      simp only [laws_szIntSS.l0]
      rw [if_pos (show (i : Int) < (l.length : Int) by omega), if_pos (show (0 : Int) ≤ (i : Int) by omega), rdL_lt l i hlt, e]
      simp only [Option.bind_some]
      rw [if_pos hq]
    · obtain ⟨r, hr1, hr2, hr3⟩ := ih (i + 1) q (by omega) (by omega) (by omega)
      refine ⟨r, fun k hk => ?_, by omega, fun h x hx => ?_⟩
      · obtain ⟨k, rfl⟩ : ∃ m, k = m + 1 := ⟨k - 1, by omega⟩
        simp only [laws_szIntSS.l0]
        rw [if_pos (show (i : Int) < (l.length : Int) by omega), if_pos (show (0 : Int) ≤ (i : Int) by omega), rdL_lt l i hlt, e]
        simp only [Option.bind_some]
        rw [if_neg hq, wrap_succ i (by omega)]
        exact hr1 k (by omega)
      · rw [drop_cons l i hlt] at hx
        rcases List.mem_cons.1 hx with rfl | hx
        · exact hq2 (by omega)
        · exact hr3 h x hx
theorem szIntSS_ev (l : List (List Int)) (left : Int) (h0 : 0 ≤ left) (h1 : left ≤ 1048576) (hm : l.length ≤ 9223372036854775807) (hw : ∀ x ∈ l, FitE x) : ∃ r, (∀ k, 1048577 ≤ k → laws_szIntSS.f k l left = some r) ∧ r ≤ left ∧ (0 ≤ r → l.length ≤ 1048576 ∧ ∀ x ∈ l, SmallE x) := by
  unfold laws_szIntSS.f
  rw [wrap_id _ (by omega)]
  by_cases h : left - (l.length : Int) < 0
  · refine ⟨-1, fun k hk => ?_, by omega, fun h => by omega⟩
    rw [if_pos h]
  · obtain ⟨r, hr1, hr2, hr3⟩ := szIntSS_l0 l (by omega) hw l.length 0 (left - (l.length : Int)) (by omega) (by omega) (by omega)
    refine ⟨r, fun k hk => ?_, by omega, fun h => ⟨by omega, fun x hx => hr3 h x (by simpa using hx)⟩⟩
    rw [if_neg h]
    exact hr1 k (by omega)
theorem toIntS_l0 (l : List Int) (hb : l.length ≤ 1048576) (d : Nat) : ∀ (x : List Int) (i : Nat), x.length = l.length → x.take i = l.take i → i + d = l.length → ∀ k, d < k → laws_toIntS.l0 k l x (i : Int) = some l := by
  induction d with
  | zero =>
    intro x i hx ht hi k hk
    obtain ⟨k, rfl⟩ : ∃ m, k = m + 1 := ⟨k - 1, by omega⟩
    simp only [laws_toIntS.l0]
    rw [if_neg (show ¬ (i : Int) < (l.length : Int) by omega), fill_end x l i hx (by omega) ht]
  | succ d ih =>
    intro x i hx ht hi k hk
    obtain ⟨k, rfl⟩ : ∃ m, k = m + 1 := ⟨k - 1, by omega⟩
    simp only [laws_toIntS.l0]
    rw [if_pos (show (i : Int) < (l.length : Int) by omega), if_pos (show (0 : Int) ≤ (i : Int) by omega), if_pos (show (i : Int) < (x.length : Int) by omega), wrap_succ i (by omega), toNat_nat, rd_lt l i (by omega)]
    exact ih _ (i + 1) (by simp [hx]) (fill_step x l i _ (by omega) (by omega) ht rfl) (by omega) k (by omega)
theorem toIntS_ev (l : List Int) (hb : l.length ≤ 1048576) : ∀ k, l.length < k → laws_toIntS.f k l = some l := by
  intro k hk
  unfold laws_toIntS.f
  rw [if_pos (by omega), if_pos (by omega)]
  exact toIntS_l0 l hb l.length _ 0 (by simp) (by simp) (by omega) k hk
theorem toIntSS_l0 (l : List (List Int)) (hb : l.length ≤ 1048576) (he : ∀ x ∈ l, SmallE x) (d : Nat) : ∀ (x : List (List Int)) (i : Nat), x.length = l.length → x.take i = l.take i → i + d = l.length → ∀ k, 1048577 + d < k → laws_toIntSS.l0 k l x (i : Int) = some l := by
  induction d with
  | zero =>
    intro x i hx ht hi k hk
    obtain ⟨k, rfl⟩ : ∃ m, k = m + 1 := ⟨k - 1, by omega⟩
    simp only [laws_toIntSS.l0]
    rw [if_neg (show ¬ (i : Int) < (l.length : Int) by omega), fill_end x l i hx (by omega) ht]
  | succ d ih =>
    intro x i hx ht hi k hk
    obtain ⟨k, rfl⟩ : ∃ m, k = m + 1 := ⟨k - 1, by omega⟩
    have hlt : i < l.length := by omega
    simp only [laws_toIntSS.l0]
    rw [if_pos (show (i : Int) < (l.length : Int) by omega), if_pos (show (0 : Int) ≤ (i : Int) by omega), rdL_lt l i hlt, toIntS_ev l[i] (he _ (List.getElem_mem hlt)) k (by have := (he _ (List.getElem_mem hlt)); unfold SmallE at this; omega)]
    simp only [Option.bind_some]
    rw [if_pos (show (i : Int) < (x.length : Int) by omega), wrap_succ i (by omega), toNat_nat]
    exact ih _ (i + 1) (by simp [hx]) (fill_step x l i _ (by omega) (by omega) ht rfl) (by omega) k (by omega)
theorem toIntSS_ev (l : List (List Int)) (hb : l.length ≤ 1048576) (he : ∀ x ∈ l, SmallE x) : ∀ k, 1048577 + l.length < k → laws_toIntSS.f k l = some l := by
  intro k hk
  unfold laws_toIntSS.f
  rw [if_pos (by omega), if_pos (by omega)]
  exact toIntSS_l0 l hb he l.length _ 0 (by simp) (by simp) (by omega) k hk
theorem eqIntS_l0 (a b : List Int) (hl : a.length = b.length) (hb : a.length < 9223372036854775807) (d : Nat) : ∀ (i : Nat), i + d = a.length → ∀ k, d < k → laws_eqIntS.l0 k a b (i : Int) = some (decide (a.drop i = b.drop i)) := by
  induction d with
  | zero =>
    intro i hi k hk
    obtain ⟨k, rfl⟩ : ∃ m, k = m + 1 := ⟨k - 1, by omega⟩
    simp only [laws_eqIntS.l0]
    rw [if_neg (show ¬ (i : Int) < (a.length : Int) by omega), drop_all a i (by omega), drop_all b i (by omega)]
    simp
  | succ d ih =>
    intro i hi k hk
    obtain ⟨k, rfl⟩ : ∃ m, k = m + 1 := ⟨k - 1, by omega⟩
    simp only [laws_eqIntS.l0]
    rw [if_pos (show (i : Int) < (a.length : Int) by omega), if_pos (show (0 : Int) ≤ (i : Int) by omega), if_pos (show (i : Int) < (b.length : Int) by omega)]
    by_cases he : rd a (i : Int) = rd b (i : Int)
    · rw [if_pos he, wrap_succ i (by omega), ih (i + 1) (by omega) k (by omega)]
      congr 1
      rw [decide_eq_decide, drop_eq_iff a b i (by omega) (by omega)]
      exact ⟨fun h => ⟨he, h⟩, fun h => h.2⟩
    · rw [if_neg he]
      congr 1
      symm
      rw [decide_eq_false_iff_not, drop_eq_iff a b i (by omega) (by omega)]
      exact fun h => he h.1
theorem eqIntS_ev (a b : List Int) (hb : a.length < 9223372036854775807) : ∀ k, a.length < k → laws_eqIntS.f k a b = some (decide (a = b)) := by
  intro k hk
  unfold laws_eqIntS.f
  by_cases hl : a.length = b.length
  · rw [if_pos (by omega)]
    exact eqIntS_l0 a b hl hb a.length 0 (by omega) k hk
  · rw [if_neg (by omega), decide_eq_false (fun h => hl (by rw [h]))]
theorem eqIntSS_l0 (a b : List (List Int)) (hl : a.length = b.length) (hb : a.length ≤ 1048576) (he : ∀ x ∈ a, SmallE x) (d : Nat) : ∀ (i : Nat), i + d = a.length → ∀ k, 1048577 + d < k → laws_eqIntSS.l0 k a b (i : Int) = some (decide (a.drop i = b.drop i)) := by
  induction d with
  | zero =>
    intro i hi k hk
    obtain ⟨k, rfl⟩ : ∃ m, k = m + 1 := ⟨k - 1, by omega⟩
    simp only [laws_eqIntSS.l0]
    rw [if_neg (show ¬ (i : Int) < (a.length : Int) by omega), drop_all a i (by omega), drop_all b i (by omega)]
    simp
  | succ d ih =>
    intro i hi k hk
    obtain ⟨k, rfl⟩ : ∃ m, k = m + 1 := ⟨k - 1, by omega⟩
    have h1 : i < a.length := by omega
    have h2 : i < b.length := by omega
    simp only [laws_eqIntSS.l0]
    rw [if_pos (show (i : Int) < (a.length : Int) by omega), if_pos (show (0 : Int) ≤ (i : Int) by omega), if_pos (show (i : Int) < (b.length : Int) by omega), rdL_lt a i h1, rdL_lt b i h2, eqIntS_ev a[i] b[i] (by have := (he _ (List.getElem_mem h1)); unfold SmallE at this; omega) k (by have := (he _ (List.getElem_mem h1)); unfold SmallE at this; omega)]
    simp only [Option.bind_some]
    by_cases hq : a[i] = b[i]
    · rw [if_pos (decide_eq_true hq), wrap_succ i (by omega), ih (i + 1) (by omega) k (by omega)]
      congr 1
      rw [decide_eq_decide, drop_cons a i h1, drop_cons b i h2, List.cons.injEq]
      exact ⟨fun h => ⟨hq, h⟩, fun h => h.2⟩
    · rw [if_neg (by simp [hq])]
      congr 1
      symm
      rw [decide_eq_false_iff_not, drop_cons a i h1, drop_cons b i h2, List.cons.injEq]
      exact fun h => hq h.1
theorem eqIntSS_ev (a b : List (List Int)) (hb : a.length ≤ 1048576) (he : ∀ x ∈ a, SmallE x) : ∀ k, 1048577 + a.length < k → laws_eqIntSS.f k a b = some (decide (a = b)) := by
  intro k hk
  unfold laws_eqIntSS.f
  by_cases hl : a.length = b.length
  · rw [if_pos (by omega)]
    exact eqIntSS_l0 a b hl hb he a.length 0 (by omega) k hk
  · rw [if_neg (by omega), decide_eq_false (fun h => hl (by rw [h]))]
def byteB (x : Int) : Bool := decide (0 ≤ x ∧ x ≤ 255)
def bytesB (l : List Int) : Bool := l.all byteB && decide (l.length ≤ 40)
theorem sAreBytes_l0 (l : List (Int)) (hl : l.length ≤ 1048576) (d : Nat) : ∀ i : Nat, i + d = l.length → ∀ k, 0 + d < k → spec_AreBytes.l0 k l (i : Int) = some ((l.drop i).all byteB && decide (l.length ≤ 40)) := by
  induction d with
  | zero =>
    intro i hi k hk
    obtain ⟨k, rfl⟩ : ∃ m, k = m + 1 := ⟨k - 1, by omega⟩
    simp only [spec_AreBytes.l0]
    rw [if_neg (show ¬ (i : Int) < (l.length : Int) by omega), drop_all l i (by omega)]
    simp; omega
  | succ d ih =>
    intro i hi k hk
    obtain ⟨k, rfl⟩ : ∃ m, k = m + 1 := ⟨k - 1, by omega⟩
    have hlt : i < l.length := by omega
    simp only [spec_AreBytes.l0]
    rw [if_pos (show (i : Int) < (l.length : Int) by omega), if_pos (show (0 : Int) ≤ (i : Int) by omega), rd_lt l i hlt, show spec_l01In.f l[i] 0 255 = some (byteB l[i]) from l01In_eq _ _ _]
    simp only [Option.bind_some]
    by_cases hp : byteB l[i] = true
    · rw [if_pos hp, wrap_succ i (by omega), ih (i + 1) (by omega) k (by omega), drop_cons l i hlt, List.all_cons, hp, Bool.true_and]
    · rw [if_neg hp, drop_cons l i hlt, List.all_cons, Bool.eq_false_iff.mpr hp, Bool.false_and, Bool.false_and]
theorem sAreBytes_ev (l : List Int) (hl : l.length ≤ 1048576) (k : Nat) (hk : l.length < k) : spec_AreBytes.f k l = some (bytesB l) := sAreBytes_l0 l hl l.length 0 (by omega) k (by omega)
theorem notByte_eq (x : Int) : impl_AreBytes_1.f x = some (!byteB x) := by
  unfold impl_AreBytes_1.f impl_isByte.f
  rw [within_eq]
  rfl
theorem cBytes_l0 (l : List (Int)) (hl : l.length ≤ 1048576) (d : Nat) : ∀ i : Nat, i + d = l.length → ∀ k, 0 + d < k → ∃ r, slices_IndexFunc_int_int__impl_AreBytes_1.l0 k l (l.length : Int) (i : Int) = some r ∧ decide (r ≥ 0) = (l.drop i).any (fun x => !byteB x) := by
  induction d with
  | zero =>
    intro i hi k hk
    obtain ⟨k, rfl⟩ : ∃ m, k = m + 1 := ⟨k - 1, by omega⟩
    refine ⟨-1, ?_, ?_⟩
    · simp only [slices_IndexFunc_int_int__impl_AreBytes_1.l0]
      rw [if_neg (show ¬ (i : Int) < (l.length : Int) by omega)]
    · rw [drop_all l i (by omega)]; rfl
  | succ d ih =>
    intro i hi k hk
    obtain ⟨k, rfl⟩ : ∃ m, k = m + 1 := ⟨k - 1, by omega⟩
    have hlt : i < l.length := by omega
    simp only [slices_IndexFunc_int_int__impl_AreBytes_1.l0]
    rw [if_pos (show (i : Int) < (l.length : Int) by omega), if_pos (show (0 : Int) ≤ (i : Int) by omega), if_pos (show (i : Int) < (l.length : Int) by omega), rd_lt l i hlt, notByte_eq l[i]]
    simp only [Option.bind_some]
    by_cases hp : (fun x => !byteB x) l[i] = true
    · rw [if_pos hp]
      exact ⟨_, rfl, by rw [any_drop_yes l i hlt _ hp, decide_eq_true (by omega)]⟩
    · rw [if_neg hp, wrap_succ i (by omega)]
      obtain ⟨r, h1, h2⟩ := ih (i + 1) (by omega) k (by omega)
      exact ⟨r, h1, by rw [h2, any_drop_no l i hlt _ hp]⟩
theorem cBytes_ev (l : List (Int)) (hl : l.length ≤ 1048576) (k : Nat) (hk : 0 + l.length < k) : slices_ContainsFunc_int_int__impl_AreBytes_1.f k l = some (l.any (fun x => !byteB x)) := by
  obtain ⟨r, h1, h2⟩ := cBytes_l0 l hl l.length 0 (by omega) k hk
  unfold slices_ContainsFunc_int_int__impl_AreBytes_1.f slices_IndexFunc_int_int__impl_AreBytes_1.f
  have c0 : ((0 : Nat) : Int) = 0 := rfl
  rw [c0] at h1
  rw [h1]
  simp only [Option.bind_some]
  rw [h2]; rfl
theorem iAreBytes_ev (l : List Int) (k : Nat) (hk : 40 < k) : impl_AreBytes.f k l = some (bytesB l) := by
  unfold impl_AreBytes.f bytesB
  by_cases h : (l.length : Int) ≤ 40
  · rw [if_pos h, cBytes_ev l (by omega) k (by omega)]
    simp only [Option.bind_some]
    rw [any_not, decide_eq_true (show l.length ≤ 40 by omega), Bool.and_true]
  · rw [if_neg h, decide_eq_false (show ¬ l.length ≤ 40 by omega), Bool.and_false]
theorem bytesB_len {l : List Int} (h : bytesB l = true) : l.length ≤ 40 := by
  unfold bytesB at h
  simp only [Bool.and_eq_true, decide_eq_true_eq] at h
  exact h.2
theorem equal_l0 (a b : List Int) (hl : a.length = b.length) (hb : a.length < 9223372036854775807) (d : Nat) : ∀ (i : Nat), i + d = a.length → ∀ k, d < k → slices_Equal_int_int.l0 k a b (((a.length : Nat) : Int)) (i : Int) = some (decide (a.drop i = b.drop i)) := by
  induction d with
  | zero =>
    intro i hi k hk
    obtain ⟨k, rfl⟩ : ∃ m, k = m + 1 := ⟨k - 1, by omega⟩
    simp only [slices_Equal_int_int.l0]
    rw [if_neg (show ¬ (i : Int) < (a.length : Int) by omega), drop_all a i (by omega), drop_all b i (by omega)]
    simp
  | succ d ih =>
    intro i hi k hk
    obtain ⟨k, rfl⟩ : ∃ m, k = m + 1 := ⟨k - 1, by omega⟩
    simp only [slices_Equal_int_int.l0]
    rw [if_pos (show (i : Int) < (a.length : Int) by omega), if_pos (show (0 : Int) ≤ (i : Int) by omega), if_pos (show (i : Int) < (a.length : Int) by omega), if_pos (show (i : Int) < (b.length : Int) by omega)]
    by_cases he : rd a (i : Int) = rd b (i : Int)
    · rw [if_pos he, wrap_succ i (by omega), ih (i + 1) (by omega) k (by omega)]
      congr 1
      rw [decide_eq_decide, drop_eq_iff a b i (by omega) (by omega)]
      exact ⟨fun h => ⟨he, h⟩, fun h => h.2⟩
    · rw [if_neg he]
      congr 1
      symm
      rw [decide_eq_false_iff_not, drop_eq_iff a b i (by omega) (by omega)]
      exact fun h => he h.1
theorem equal_ev (a b : List Int) (hb : a.length < 9223372036854775807) : ∀ k, a.length < k → slices_Equal_int_int.f k a b = some (decide (a = b)) := by
  intro k hk
  unfold slices_Equal_int_int.f
  by_cases hl : a.length = b.length
  · rw [if_pos (by omega)]
    exact equal_l0 a b hl hb a.length 0 (by omega) k hk
  · rw [if_neg (by omega), decide_eq_false (fun h => hl (by rw [h]))]
/-- The numbers s, s + 1, .. -/
def markL (n : Nat) (s : Int) : List Int := (List.range n).map fun (i : Nat) => s + (i : Int)
theorem markL_length (n : Nat) (s : Int) : (markL n s).length = n := by simp [markL]
theorem markL_get (n : Nat) (s : Int) (i : Nat) (h : i < (markL n s).length) : (markL n s)[i] = s + (i : Int) := by simp [markL]
theorem markIntS_l0 (n : Nat) (s : Int) (hn : n ≤ 1048576) (h0 : 0 ≤ s) (h1 : s ≤ 4000000000000000000) (d : Nat) : ∀ (x : List Int) (i : Nat), x.length = n → x.take i = (markL n s).take i → i + d = n → ∀ k, d < k → laws_markIntS.l0 k x (s + (i : Int)) (i : Int) = some (s + (n : Int), markL n s) := by
  induction d with
  | zero =>
    intro x i hx ht hi k hk
    obtain ⟨k, rfl⟩ : ∃ m, k = m + 1 := ⟨k - 1, by omega⟩
    simp only [laws_markIntS.l0]
    have hlen := markL_length n s
    rw [if_neg (show ¬ (i : Int) < (x.length : Int) by omega), fill_end x (markL n s) i (by omega) (by omega) ht, show i = n by omega]
  | succ d ih =>
    intro x i hx ht hi k hk
    obtain ⟨k, rfl⟩ : ∃ m, k = m + 1 := ⟨k - 1, by omega⟩
    have hlen := markL_length n s
    simp only [laws_markIntS.l0]
    rw [if_pos (show (i : Int) < (x.length : Int) by omega), if_pos (show (0 : Int) ≤ (i : Int) by omega), wrap_succ i (by omega), toNat_nat, wrap_id (s + (i : Int) + 1) (by omega)]
    have e : s + (i : Int) + 1 = s + ((i + 1 : Nat) : Int) := by omega
    rw [e]
    exact ih _ (i + 1) (by simp [hx]) (fill_step x (markL n s) i _ (by omega) (by omega) ht (markL_get n s i (by omega)).symm) (by omega) k (by omega)
theorem markIntS_ev (l : List Int) (s : Int) (hn : l.length ≤ 1048576) (h0 : 0 ≤ s) (h1 : s ≤ 4000000000000000000) (k : Nat) (hk : l.length < k) : laws_markIntS.f k l s = some (s + (l.length : Int), markL l.length s) := by
  unfold laws_markIntS.f
  have h := markIntS_l0 l.length s hn h0 h1 l.length l 0 rfl (by simp) (by omega) k hk
  simpa using h
theorem heldIntS_l0 (n : Nat) (s : Int) (hn : n ≤ 1048576) (h0 : 0 ≤ s) (h1 : s ≤ 4000000000000000000) (d : Nat) : ∀ (i : Nat), i + d = n → ∀ k, d < k → laws_heldIntS.l0 k (markL n s) (s + (i : Int)) (i : Int) = some (s + (n : Int)) := by
  have hlen := markL_length n s
  induction d with
  | zero =>
    intro i hi k hk
    obtain ⟨k, rfl⟩ : ∃ m, k = m + 1 := ⟨k - 1, by omega⟩
    simp only [laws_heldIntS.l0]
    rw [if_neg (show ¬ (i : Int) < ((markL n s).length : Int) by omega), show i = n by omega]
  | succ d ih =>
    intro i hi k hk
    obtain ⟨k, rfl⟩ : ∃ m, k = m + 1 := ⟨k - 1, by omega⟩
    simp only [laws_heldIntS.l0]
    rw [if_pos (show (i : Int) < ((markL n s).length : Int) by omega), if_pos (show (0 : Int) ≤ (i : Int) by omega), rd_lt _ i (by omega), markL_get n s i (by omega), if_pos rfl, wrap_succ i (by omega), wrap_id (s + (i : Int) + 1) (by omega)]
    have e : s + (i : Int) + 1 = s + ((i + 1 : Nat) : Int) := by omega
    rw [e]
    exact ih (i + 1) (by omega) k (by omega)
theorem heldIntS_ev (n : Nat) (s : Int) (hn : n ≤ 1048576) (h0 : 0 ≤ s) (h1 : s ≤ 4000000000000000000) (k : Nat) (hk : n < k) : laws_heldIntS.f k (markL n s) s = some (s + (n : Int)) := by
  unfold laws_heldIntS.f
  have h := heldIntS_l0 n s hn h0 h1 n 0 (by omega) k hk
  simpa using h
/-- All rows' lengths. -/
def totL : List (List Int) → Nat
  | [] => 0
  | x :: l => x.length + totL l
def markLL : List (List Int) → Int → List (List Int)
  | [], _ => []
  | x :: l, s => markL x.length s :: markLL l (s + (x.length : Int))
theorem rdL_mid (done : List (List Int)) (x : List Int) (rest : List (List Int)) : rd_L1 (done ++ x :: rest) (done.length : Int) = x := by
  unfold rd_L1
  rw [toNat_nat]
  simp
theorem set_mid {α : Type} (done : List α) (x y : α) (rest : List α) : (done ++ x :: rest).set done.length y = (done ++ [y]) ++ rest := by
  rw [List.set_append_right _ _ (Nat.le_refl _)]
  simp
theorem markSS_l0 (rest : List (List Int)) : ∀ (done : List (List Int)) (s : Int), 0 ≤ s → s + (totL rest : Int) ≤ 4000000000000000000 → done.length + rest.length ≤ 1048576 → (∀ x ∈ rest, x.length ≤ 1048576) → ∀ k, 1048577 + rest.length < k → laws_markIntSS.l0 k (done ++ rest) s (done.length : Int) = some (s + (totL rest : Int), done ++ markLL rest s) := by
  induction rest with
  | nil =>
    intro done s h0 h1 hl hs k hk
    obtain ⟨k, rfl⟩ : ∃ m, k = m + 1 := ⟨k - 1, by omega⟩
    simp only [laws_markIntSS.l0]
    rw [if_neg (by rw [List.append_nil]; omega)]
    simp [totL, markLL]
  | cons x rest ih =>
    intro done s h0 h1 hl hs k hk
    obtain ⟨k, rfl⟩ : ∃ m, k = m + 1 := ⟨k - 1, by omega⟩
    have hx := hs x (by simp)
    simp only [List.length_cons] at hk hl
    have ht : totL (x :: rest) = x.length + totL rest := rfl
    simp only [laws_markIntSS.l0]
    rw [if_pos (by rw [List.length_append, List.length_cons]; omega), if_pos (by omega), rdL_mid, markIntS_ev x s hx h0 (by omega) k (by omega)]
    simp only [Option.bind_some]
    rw [wrap_succ _ (by omega), toNat_nat, set_mid]
    have h := ih (done ++ [markL x.length s]) (s + (x.length : Int)) (by omega) (by omega) (by rw [List.length_append, List.length_singleton]; omega) (fun y hy => hs y (by simp [hy])) k (by omega)
    rw [List.length_append, List.length_singleton] at h
    rw [h, ht]
    simp only [markLL, List.append_assoc, List.singleton_append]
    congr 2
    omega
theorem markSS_ev (l : List (List Int)) (s : Int) (h0 : 0 ≤ s) (h1 : s + (totL l : Int) ≤ 4000000000000000000) (hl : l.length ≤ 1048576) (hs : ∀ x ∈ l, x.length ≤ 1048576) (k : Nat) (hk : 2097155 < k) : laws_markIntSS.f k l s = some (s + (totL l : Int), markLL l s) := by
  unfold laws_markIntSS.f
  exact markSS_l0 l [] s h0 h1 (by simpa using hl) hs k (by omega)
theorem totL_le (m : Nat) (l : List (List Int)) (h : ∀ x ∈ l, x.length ≤ m) : totL l ≤ l.length * m := by
  induction l with
  | nil => simp [totL]
  | cons x l ih =>
    have h1 := h x (by simp)
    have h2 := ih (fun y hy => h y (by simp [hy]))
    simp only [totL, List.length_cons, Nat.succ_mul]
    omega
/-- What falls to lane i. -/
def colw (w i : Nat) (l : List Int) : List Int := (l.zipIdx.filter (fun p => p.2 % w == i)).map (·.1)
def stripeL (l : List Int) (w : Nat) : List (List Int) := (List.range w).map fun i => 256 :: colw w i l
theorem colw_snoc (w i : Nat) (l : List Int) (x : Int) : colw w i (l ++ [x]) = colw w i l ++ (if l.length % w = i then [x] else []) := by
  unfold colw
  rw [List.zipIdx_append, List.filter_append, List.map_append]
  congr 1
  by_cases h : l.length % w = i <;> simp [h]
theorem colw_take (w i : Nat) (l : List Int) (j : Nat) (h : j < l.length) : colw w i (l.take (j + 1)) = colw w i (l.take j) ++ (if j % w = i then [l[j]] else []) := by
  rw [take_snoc l j h, colw_snoc, List.length_take, Nat.min_eq_left (by omega)]
theorem colw_le (w i : Nat) (l : List Int) : (colw w i l).length ≤ l.length := by
  unfold colw
  rw [List.length_map]
  exact Nat.le_trans (List.length_filter_le _ _) (by simp)
theorem stripe_length (l : List Int) (w : Nat) : (stripeL l w).length = w := by simp [stripeL]
theorem stripe_get (l : List Int) (w i : Nat) (h : i < (stripeL l w).length) : (stripeL l w)[i] = 256 :: colw w i l := by simp [stripeL]
theorem stripe_rd (l : List Int) (w i : Nat) (h : i < w) : rd_L1 (stripeL l w) (i : Int) = 256 :: colw w i l := by
  rw [rdL_lt _ i (by rw [stripe_length]; exact h), stripe_get]
theorem stripe_step (l : List Int) (w j : Nat) (hw : 0 < w) (h : j < l.length) : (stripeL (l.take j) w).set (j % w) ((256 :: colw w (j % w) (l.take j)) ++ [l[j]]) = stripeL (l.take (j + 1)) w := by
  apply List.ext_getElem
  · rw [List.length_set, stripe_length, stripe_length]
  · intro i h1 h2
    rw [List.length_set, stripe_length] at h1
    rw [stripe_get, colw_take w i l j h, List.getElem_set]
    by_cases hi : j % w = i
    · rw [if_pos hi, if_pos hi, hi]; simp
    · rw [if_neg hi, if_neg hi, stripe_get]; simp
def wdB (a : Int) : Bool := if a = 1 then true else if a = 2 then true else (a == 4)
theorem wdB_nat (a : Int) (h : wdB a = true) : ∃ w : Nat, a = (w : Int) ∧ (w = 1 ∨ w = 2 ∨ w = 4) := by
  unfold wdB at h
  split at h
  · exact ⟨1, by omega, by omega⟩
  split at h
  · exact ⟨2, by omega, by omega⟩
  · exact ⟨4, by have := beq_iff_eq.mp h; omega, by omega⟩
theorem sIsWidth_eq (a : Int) : spec_IsWidth.f a = some (wdB a) := by
  unfold spec_IsWidth.f wdB
  split
  · rfl
  split <;> rfl
theorem iIsWidth_eq (a : Int) : impl_IsWidth.f a = some (wdB a) := by
  unfold impl_IsWidth.f wdB
  split
  · rfl
  split <;> rfl
theorem iRows (l : List Int) (w : Nat) (hw : w ≤ 4) (d : Nat) : ∀ (i : Nat), i + d = w → ∀ k, impl_StripeBytes.l0 (k + d + 1) l (w : Int) (List.replicate i [256]) (w : Int) (i : Int) = impl_StripeBytes.l1 k (w : Int) (List.replicate w [256]) l (l.length : Int) 0 := by
  induction d with
  | zero =>
    intro i hi k
    have : i = w := by omega
    subst this
    simp only [impl_StripeBytes.l0]
    rw [if_neg (by omega)]
  | succ d ih =>
    intro i hi k
    rw [show k + (d + 1) + 1 = (k + d + 1) + 1 by omega]
    simp only [impl_StripeBytes.l0]
    rw [if_pos (by omega), if_pos (by rw [List.length_replicate]; omega), wrap_succ i (by omega), ← List.replicate_succ']
    exact ih (i + 1) (by omega) k
theorem stripe_nil (w : Nat) : stripeL [] w = List.replicate w [256] := by
  apply List.ext_getElem
  · rw [stripe_length, List.length_replicate]
  · intro i h1 h2
    rw [stripe_get, List.getElem_replicate]
    rfl
theorem iCols (l : List Int) (hl : l.length ≤ 1048576) (w : Nat) (hw : w = 1 ∨ w = 2 ∨ w = 4) (d : Nat) : ∀ j : Nat, j + d = l.length → ∀ k, d < k → impl_StripeBytes.l1 k (w : Int) (stripeL (l.take j) w) l (l.length : Int) (j : Int) = some (stripeL l w) := by
  induction d with
  | zero =>
    intro j hj k hk
    obtain ⟨k, rfl⟩ : ∃ m, k = m + 1 := ⟨k - 1, by omega⟩
    simp only [impl_StripeBytes.l1]
    rw [if_neg (by omega), take_all l j (by omega)]
  | succ d ih =>
    intro j hj k hk
    obtain ⟨k, rfl⟩ : ∃ m, k = m + 1 := ⟨k - 1, by omega⟩
    have hw0 : 0 < w := by omega
    have hm : j % w < w := Nat.mod_lt _ hw0
    have ht : Int.tmod (j : Int) (w : Int) = ((j % w : Nat) : Int) := by rw [Int.tmod_eq_emod_of_nonneg (by omega)]; omega
    have hc := colw_le w (j % w) (l.take j)
    rw [List.length_take] at hc
    simp only [impl_StripeBytes.l1]
    rw [ht, if_pos (by omega), if_pos (by omega), if_pos (by omega), if_neg (by omega), if_pos (by omega), if_pos (by rw [stripe_length]; omega), stripe_rd _ _ _ hm, if_pos (by rw [List.length_cons]; omega), rd_lt l j (by omega), toNat_nat, stripe_step l w j hw0 (by omega), wrap_succ j (by omega)]
    exact ih (j + 1) (by omega) k (by omega)
/-- What both make of bytes and a width. -/
def stripeR (l : List Int) (a : Int) : List (List Int) := if bytesB l = true ∧ wdB a = true then stripeL l a.toNat else []
theorem iStripe_ev (l : List Int) (hl : l.length ≤ 1048576) (a : Int) (k : Nat) (hk : 1048650 < k) : impl_StripeBytes.f k l a = some (stripeR l a) := by
  obtain ⟨k, rfl⟩ : ∃ m, k = m + 1 := ⟨k - 1, by omega⟩
  unfold impl_StripeBytes.f stripeR
  rw [iAreBytes_ev l _ (by omega)]
  simp only [Option.bind_some]
  by_cases h1 : bytesB l = true
  · rw [if_pos h1, iIsWidth_eq]
    simp only [Option.bind_some, impl_StripeBytes.j0]
    by_cases h2 : wdB a = true
    · obtain ⟨w, rfl, hw⟩ := wdB_nat a h2
      rw [h2, if_neg (by simp), if_pos ⟨h1, rfl⟩, toNat_nat]
      obtain ⟨m, rfl⟩ : ∃ m, k = m + w + 1 := ⟨k - w - 1, by omega⟩
      have h := iRows l w (by omega) w 0 (by omega) m
      have h' := iCols l hl w hw l.length 0 (by omega) m (by omega)
      rw [List.take_zero, stripe_nil] at h'
      exact h.trans h'
    · rw [Bool.eq_false_iff.mpr h2, if_pos (show (!false) = true from rfl), if_neg (by simp)]
  · rw [if_neg h1, if_neg (by simp [h1])]
    simp [impl_StripeBytes.j0]
theorem stripeR_len (l : List Int) (a : Int) : (stripeR l a).length ≤ 4 ∧ ∀ x ∈ stripeR l a, x.length ≤ 1 + l.length := by
  unfold stripeR
  split
  · rename_i h
    obtain ⟨w, rfl, hw⟩ := wdB_nat a h.2
    rw [toNat_nat]
    refine ⟨by rw [stripe_length]; omega, fun x hx => ?_⟩
    unfold stripeL at hx
    obtain ⟨i, _, rfl⟩ := List.mem_map.1 hx
    have := colw_le w i l
    rw [List.length_cons]; omega
  · exact ⟨by simp, by simp⟩
def dv (m w : Nat) : Nat := m / w
theorem dv_le (m w : Nat) : dv m w ≤ m := Nat.div_le_self m w
theorem iStripe_any (l : List Int) (a : Int) (k : Nat) (hk : 1048650 < k) : impl_StripeBytes.f k l a = some (stripeR l a) := by
  by_cases h1 : bytesB l = true
  · exact iStripe_ev l (by have := bytesB_len h1; omega) a k hk
  · obtain ⟨k, rfl⟩ : ∃ m, k = m + 1 := ⟨k - 1, by omega⟩
    unfold impl_StripeBytes.f stripeR
    rw [iAreBytes_ev l _ (by omega)]
    simp only [Option.bind_some]
    rw [if_neg h1, if_neg (by simp [h1])]
    simp [impl_StripeBytes.j0]
/-- What lies at place k where lanes are read in turn. -/
def elt (L : List (List Int)) (w k : Nat) : Int := rd (rd_L1 L ((k % w : Nat) : Int)) ((dv k w : Nat) : Int)
def inter (L : List (List Int)) (w m : Nat) : List Int := (List.range m).map (elt L w)
theorem inter_succ (L : List (List Int)) (w m : Nat) : inter L w (m + 1) = inter L w m ++ [elt L w m] := by simp [inter, List.range_succ]
theorem inter_len (L : List (List Int)) (w m : Nat) : (inter L w m).length = m := by simp [inter]
def Has (L : List (List Int)) (w k : Nat) : Prop := dv k w < (rd_L1 L ((k % w : Nat) : Int)).length
instance (L : List (List Int)) (w k : Nat) : Decidable (Has L w k) := by unfold Has; infer_instance
/-- How many of the first m places fall to lane i. -/
def cnt (w i m : Nat) : Nat := (m + (w - 1 - i)) / w
theorem totL_app (a b : List (List Int)) : totL (a ++ b) = totL a + totL b := by
  induction a with
  | nil => simp [totL]
  | cons x a ih => simp only [List.cons_append, totL, ih]; omega
theorem cnt_step (w i m : Nat) (hw : w = 1 ∨ w = 2 ∨ w = 4) (hi : i < w) : cnt w i (m + 1) = cnt w i m + (if m % w = i then 1 else 0) := by
  unfold cnt
  rcases hw with rfl | rfl | rfl <;> split <;> omega
theorem cnt_at (w m : Nat) (hw : w = 1 ∨ w = 2 ∨ w = 4) : cnt w (m % w) m = dv m w := by
  unfold cnt dv
  rcases hw with rfl | rfl | rfl <;> omega
theorem cnt_zero (w i : Nat) (hi : i < w) : cnt w i 0 = 0 := by
  unfold cnt
  exact Nat.div_eq_of_lt (by omega)
theorem cols (L : List (List Int)) (w : Nat) (hw : w = 1 ∨ w = 2 ∨ w = 4) (m : Nat) (hv : ∀ k, k < m → Has L w k) (i : Nat) (hi : i < w) :
    cnt w i m ≤ (rd_L1 L (i : Int)).length ∧ colw w i (inter L w m) = (rd_L1 L (i : Int)).take (cnt w i m) := by
  induction m with
  | zero => rw [cnt_zero w i hi]; exact ⟨Nat.zero_le _, by simp [inter, colw]⟩
  | succ m ih =>
    obtain ⟨h1, h2⟩ := ih (fun k hk => hv k (by omega))
    rw [cnt_step w i m hw hi, inter_succ, colw_snoc, inter_len, h2]
    by_cases h : m % w = i
    · have hm := hv m (by omega)
      unfold Has at hm
      have hc := cnt_at w m hw
      rw [h] at hm hc
      rw [if_pos h, if_pos h, hc]
      refine ⟨by omega, ?_⟩
      rw [take_snoc _ _ hm]
      congr 2
      unfold elt
      rw [h, rd_lt _ _ hm]
    · rw [if_neg h, if_neg h, Nat.add_zero, List.append_nil]
      exact ⟨h1, rfl⟩
theorem rdL_nil (L : List (List Int)) (i : Nat) (h : L.length ≤ i) : rd_L1 L (i : Int) = [] := by
  unfold rd_L1
  rw [toNat_nat, List.getD_eq_getElem?_getD, List.getElem?_eq_none h]
  rfl
theorem tot4 (L : List (List Int)) (w : Nat) (hw : w = 1 ∨ w = 2 ∨ w = 4) (hl : L.length = w) :
    (w = 1 → totL L = (rd_L1 L ((0 : Nat) : Int)).length) ∧ (w = 2 → totL L = (rd_L1 L ((0 : Nat) : Int)).length + (rd_L1 L ((1 : Nat) : Int)).length) ∧
    (w = 4 → totL L = (rd_L1 L ((0 : Nat) : Int)).length + (rd_L1 L ((1 : Nat) : Int)).length + (rd_L1 L ((2 : Nat) : Int)).length + (rd_L1 L ((3 : Nat) : Int)).length) := by
  refine ⟨fun h => ?_, fun h => ?_, fun h => ?_⟩
  · match L, hl.trans h with
    | [a], _ => simp [totL, rd_L1]
  · match L, hl.trans h with
    | [a, b], _ => simp [totL, rd_L1]
  · match L, hl.trans h with
    | [a, b, c, d], _ => simp [totL, rd_L1]; omega
theorem cnt_sum (m : Nat) : cnt 1 0 m = m ∧ cnt 2 0 m + cnt 2 1 m = m ∧ cnt 4 0 m + cnt 4 1 m + cnt 4 2 m + cnt 4 3 m = m := by
  unfold cnt
  refine ⟨by omega, by omega, by omega⟩
theorem sum_le (L : List (List Int)) (w : Nat) (hw : w = 1 ∨ w = 2 ∨ w = 4) (hl : L.length = w) (m : Nat) (hv : ∀ k, k < m → Has L w k) : m ≤ totL L := by
  obtain ⟨t1, t2, t4⟩ := tot4 L w hw hl
  have c := fun i hi => (cols L w hw m hv i hi).1
  obtain ⟨s1, s2, s4⟩ := cnt_sum m
  rcases hw with rfl | rfl | rfl
  · have := c 0 (by omega); have := t1 rfl; omega
  · have := c 0 (by omega); have := c 1 (by omega); have := t2 rfl; omega
  · have := c 0 (by omega); have := c 1 (by omega); have := c 2 (by omega); have := c 3 (by omega); have := t4 rfl; omega
theorem all_in (L : List (List Int)) (w : Nat) (hw : w = 1 ∨ w = 2 ∨ w = 4) (hl : L.length = w) (hv : ∀ k, k < totL L → Has L w k) (i : Nat) (hi : i < w) : colw w i (inter L w (totL L)) = rd_L1 L (i : Int) := by
  obtain ⟨t1, t2, t4⟩ := tot4 L w hw hl
  have c := fun i hi => (cols L w hw _ hv i hi).1
  have h2 := (cols L w hw _ hv i hi).2
  have he : (rd_L1 L (i : Int)).length ≤ cnt w i (totL L) := by
    obtain ⟨s1, s2, s4⟩ := cnt_sum (totL L)
    rcases hw with rfl | rfl | rfl
    · have := c 0 (by omega); have := t1 rfl
      obtain rfl : i = 0 := by omega
      omega
    · have := c 0 (by omega); have := c 1 (by omega); have := t2 rfl
      rcases (show i = 0 ∨ i = 1 by omega) with rfl | rfl <;> omega
    · have := c 0 (by omega); have := c 1 (by omega); have := c 2 (by omega); have := c 3 (by omega); have := t4 rfl
      rcases (show i = 0 ∨ i = 1 ∨ i = 2 ∨ i = 3 by omega) with rfl | rfl | rfl | rfl <;> omega
  rw [h2, take_all _ _ he]
theorem all_out (L : List (List Int)) (w : Nat) (hw : w = 1 ∨ w = 2 ∨ w = 4) (hl : L.length = w) (m : Nat) (hv : ∀ k, k < m → Has L w k) (h : ∀ i, i < w → colw w i (inter L w m) = rd_L1 L (i : Int)) : m = totL L := by
  obtain ⟨t1, t2, t4⟩ := tot4 L w hw hl
  have c : ∀ i, i < w → (rd_L1 L (i : Int)).length = cnt w i m := fun i hi => by
    have h1 := cols L w hw m hv i hi
    rw [← h i hi, h1.2, List.length_take, Nat.min_eq_left h1.1]
  obtain ⟨s1, s2, s4⟩ := cnt_sum m
  rcases hw with rfl | rfl | rfl
  · have := c 0 (by omega); have := t1 rfl; omega
  · have := c 0 (by omega); have := c 1 (by omega); have := t2 rfl; omega
  · have := c 0 (by omega); have := c 1 (by omega); have := c 2 (by omega); have := c 3 (by omega); have := t4 rfl; omega
/-- The first place that no lane has. -/
theorem first_out (L : List (List Int)) (w : Nat) (hw : w = 1 ∨ w = 2 ∨ w = 4) (hl : L.length = w) : ∃ M, M ≤ totL L ∧ (∀ k, k < M → Has L w k) ∧ ¬ Has L w M := by
  have key : ∀ d m, m + d = totL L + 1 → (∀ k, k < m → Has L w k) → ∃ M, (∀ k, k < M → Has L w k) ∧ ¬ Has L w M := by
    intro d
    induction d with
    | zero =>
      intro m hm hv
      have := sum_le L w hw hl m hv
      omega
    | succ d ih =>
      intro m hm hv
      by_cases h : Has L w m
      · exact ih (m + 1) (by omega) (fun k hk => by
          by_cases hk' : k = m
          · rw [hk']; exact h
          · exact hv k (by omega))
      · exact ⟨m, hv, h⟩
  obtain ⟨M, h1, h2⟩ := key (totL L + 1) 0 (by omega) (fun k hk => by omega)
  exact ⟨M, sum_le L w hw hl M h1, h1, h2⟩
theorem colw_cnt (L : List (List Int)) (w : Nat) (hw : w = 1 ∨ w = 2 ∨ w = 4) (i : Nat) (hi : i < w) (m : Nat) : (colw w i (inter L w m)).length = cnt w i m := by
  induction m with
  | zero => rw [cnt_zero w i hi]; simp [inter, colw]
  | succ m ih =>
    rw [cnt_step w i m hw hi, inter_succ, colw_snoc, inter_len, List.length_append, ih]
    by_cases h : m % w = i
    · rw [if_pos h, if_pos h]; rfl
    · rw [if_neg h, if_neg h]; rfl
def joinR (L : List (List Int)) (w : Nat) : List Int × Bool := if (∀ i, i < w → colw w i (inter L w (totL L)) = rd_L1 L (i : Int)) ∧ bytesB (inter L w (totL L)) = true then (inter L w (totL L), true) else ([], false)
theorem bytes_take (L : List (List Int)) (w m : Nat) (h : 40 < m) : bytesB (inter L w m) = false := by
  unfold bytesB
  rw [inter_len, decide_eq_false (by omega), Bool.and_false]
/-- What either makes of lanes whose first gap is M. -/
theorem join_at (L : List (List Int)) (w : Nat) (hw : w = 1 ∨ w = 2 ∨ w = 4) (hl : L.length = w) (M : Nat) (hM : M ≤ totL L) (hv : ∀ k, k < M → Has L w k) (hx : ¬ Has L w M) :
    (M = totL L → joinR L w = if bytesB (inter L w M) = true then (inter L w M, true) else ([], false)) ∧ (M < totL L → joinR L w = ([], false)) := by
  refine ⟨fun h => ?_, fun h => ?_⟩
  · subst h
    unfold joinR
    by_cases hb : bytesB (inter L w (totL L)) = true
    · rw [if_pos ⟨fun i hi => all_in L w hw hl hv i hi, hb⟩, if_pos hb]
    · rw [if_neg (fun h => hb h.2), if_neg hb]
  · unfold joinR
    refine if_neg (fun hc => ?_)
    have hi : M % w < w := Nat.mod_lt _ (by omega)
    have h1 : (colw w (M % w) (inter L w (totL L))).length = (rd_L1 L ((M % w : Nat) : Int)).length := by rw [hc.1 _ hi]
    rw [colw_cnt L w hw _ hi] at h1
    refine hx ?_
    unfold Has
    rw [← h1]
    unfold cnt dv
    rcases hw with rfl | rfl | rfl <;> omega
theorem sJ_l0 (L : List (List Int)) (hL : ∀ x ∈ L, x.length ≤ 1048576) (hI : L.length ≤ 4) (R : List Int × Bool) (B : Nat) (H : ∀ k, B < k → spec_JoinLanes.l1 k L (totL L : Int) [] 0 = some R) (d : Nat) : ∀ i : Nat, i + d = L.length → ∀ k, B + d + 1 < k → spec_JoinLanes.l0 k L ((totL (L.take i) : Nat) : Int) (i : Int) = some R := by
  induction d with
  | zero =>
    intro i hi k hk
    obtain ⟨k, rfl⟩ : ∃ m, k = m + 1 := ⟨k - 1, by omega⟩
    simp only [spec_JoinLanes.l0]
    rw [if_neg (by omega), take_all L i (by omega)]
    exact H k (by omega)
  | succ d ih =>
    intro i hi k hk
    obtain ⟨k, rfl⟩ : ∃ m, k = m + 1 := ⟨k - 1, by omega⟩
    have hx := hL _ (List.getElem_mem (show i < L.length by omega))
    have ht := totL_le 1048576 (L.take i) (fun x hx => hL x (List.mem_of_mem_take hx))
    rw [List.length_take] at ht
    simp only [spec_JoinLanes.l0]
    have e : totL (L.take (i + 1)) = totL (L.take i) + L[i].length := by
      rw [take_snoc L i (by omega), totL_app]
      simp [totL]
    rw [if_pos (by omega), if_pos (by omega), rdL_lt L i (by omega), wrap_succ i (by omega), wrap_id _ (by omega), show ((totL (L.take i) : Nat) : Int) + (L[i].length : Int) = ((totL (L.take (i + 1)) : Nat) : Int) by rw [e]; omega]
    exact ih (i + 1) (by omega) k (by omega)
theorem sJ_l1 (L : List (List Int)) (hL : ∀ x ∈ L, x.length ≤ 1048576) (w : Nat) (hw : w = 1 ∨ w = 2 ∨ w = 4) (hl : L.length = w) (M : Nat) (hM : M ≤ totL L) (hv : ∀ k, k < M → Has L w k) (hx : ¬ Has L w M) (d : Nat) :
    ∀ m : Nat, m ≤ M → m ≤ 41 → 41 ≤ m + d → ∀ k, 2 * d + 100 < k → spec_JoinLanes.l1 k L (totL L : Int) (inter L w m) (m : Int) = some (joinR L w) := by
  obtain ⟨j1, j2⟩ := join_at L w hw hl M hM hv hx
  have ht := totL_le 1048576 L hL
  have htm : ∀ m : Nat, Int.tmod (m : Int) (L.length : Int) = ((m % w : Nat) : Int) := fun m => by rw [hl, Int.tmod_eq_emod_of_nonneg (by omega)]; rfl
  have htd : ∀ m : Nat, Int.tdiv (m : Int) (L.length : Int) = ((dv m w : Nat) : Int) := fun m => by rw [hl, Int.tdiv_eq_ediv_of_nonneg (by omega)]; rfl
  have stop : ∀ m : Nat, m ≤ M → m ≤ 41 → (m = totL L ∨ m = 41) → ∀ k, 60 < k → spec_JoinLanes.j2 k L (totL L : Int) (inter L w m) (m : Int) false = some (joinR L w) := by
    intro m hm h41 hor k hk
    obtain ⟨k, rfl⟩ : ∃ m, k = m + 1 := ⟨k - 1, by omega⟩
    simp only [spec_JoinLanes.j2]
    rw [if_neg (by simp), sAreBytes_ev (inter L w m) (by rw [inter_len]; omega) k (by rw [inter_len]; omega)]
    simp only [Option.bind_some]
    by_cases h : m = totL L
    · obtain rfl : m = M := by omega
      rw [j1 h]
      split <;> rfl
    · obtain rfl : m = 41 := by omega
      rw [bytes_take L w 41 (by omega), if_neg (by simp)]
      by_cases hMt : M < totL L
      · rw [j2 hMt]
      · have hMe : M = totL L := by omega
        rw [j1 hMe, bytes_take L w M (by omega), if_neg (by simp)]
  induction d with
  | zero =>
    intro m hm h41 hd k hk
    obtain ⟨k, rfl⟩ : ∃ m, k = m + 1 := ⟨k - 1, by omega⟩
    obtain rfl : m = 41 := by omega
    simp only [spec_JoinLanes.l1]
    by_cases h : ((41 : Nat) : Int) < (totL L : Int)
    · rw [if_pos h, decide_eq_false (by omega)]
      exact stop 41 hm (by omega) (Or.inr rfl) k (by omega)
    · rw [if_neg h]
      exact stop 41 hm (by omega) (Or.inr rfl) k (by omega)
  | succ d ih =>
    intro m hm h41 hd k hk
    obtain ⟨k, rfl⟩ : ∃ m, k = m + 1 := ⟨k - 1, by omega⟩
    simp only [spec_JoinLanes.l1]
    by_cases h : (m : Int) < (totL L : Int)
    · rw [if_pos h]
      by_cases h40 : (m : Int) ≤ 40
      · rw [decide_eq_true h40]
        obtain ⟨k, rfl⟩ : ∃ m, k = m + 1 := ⟨k - 1, by omega⟩
        have hmw : m % w < w := Nat.mod_lt _ (by omega)
        simp only [spec_JoinLanes.j2]
        rw [if_pos trivial, if_neg (by omega), htm m, if_pos (by omega), if_pos (by omega), htd m, wrap_id _ (by have := dv_le m w; omega)]
        by_cases hh : Has L w m
        · have hh' := hh
          unfold Has at hh'
          have hmM : m ≠ M := fun e => hx (e ▸ hh)
          rw [if_neg (by omega), if_pos (by omega), if_pos (by omega), if_pos (by rw [inter_len]; omega), wrap_succ m (by omega)]
          have e : inter L w m ++ [rd (rd_L1 L ((m % w : Nat) : Int)) ((dv m w : Nat) : Int)] = inter L w (m + 1) := (inter_succ L w m).symm
          rw [e]
          exact ih (m + 1) (by omega) (by omega) (by omega) k (by omega)
        · have hmM : m = M := by
            by_cases hlt : m < M
            · exact absurd (hv m hlt) hh
            · omega
          subst hmM
          unfold Has at hh
          rw [if_pos (by omega), j2 (by omega)]
      · rw [decide_eq_false h40]
        exact stop m hm h41 (Or.inr (by omega)) k (by omega)
    · rw [if_neg h]
      exact stop m hm h41 (Or.inl (by omega)) k (by omega)
theorem sJoin_ev (L : List (List Int)) (hL : ∀ x ∈ L, x.length ≤ 1048576) (k : Nat) (hk : 300 < k) : spec_JoinLanes.f k L = some (if wdB (L.length : Int) = true then joinR L L.length else ([], false)) := by
  unfold spec_JoinLanes.f
  rw [sIsWidth_eq]
  simp only [Option.bind_some]
  by_cases h : wdB (L.length : Int) = true
  · obtain ⟨w, hw, hw'⟩ := wdB_nat _ h
    have hl : L.length = w := by omega
    obtain ⟨M, hM, hv, hx⟩ := first_out L w hw' hl
    rw [if_pos h, if_pos h, hl]
    have h1 := sJ_l0 L hL (by omega) (joinR L w) 200 (fun k hk => sJ_l1 L hL w hw' hl M hM hv hx 41 0 (by omega) (by omega) (by omega) k (by omega)) L.length 0 (by omega) k (by omega)
    simpa [totL] using h1
  · rw [if_neg h, if_neg h]
theorem eqI (a b : List Int) (hb : a.length ≤ 1048576) (k : Nat) (hk : a.length < k) : slices_Equal_int_int.f k a b = some (decide (a = b)) := equal_ev a b (by omega) k hk
theorem iJ_yes (L : List (List Int)) (w : Nat) (hl : L.length = w) (hw : w ≤ 4) (o : List Int) (ho : o.length ≤ 40) (h : ∀ i, i < w → colw w i o = rd_L1 L (i : Int)) (d : Nat) : ∀ i : Nat, i + d = w → ∀ k, d + 50 < k → impl_JoinLanes.l1 k L o (stripeL o w) (w : Int) (i : Int) = some (o, true) := by
  induction d with
  | zero =>
    intro i hi k hk
    obtain ⟨k, rfl⟩ : ∃ m, k = m + 1 := ⟨k - 1, by omega⟩
    simp only [impl_JoinLanes.l1]
    rw [if_neg (by omega)]
  | succ d ih =>
    intro i hi k hk
    obtain ⟨k, rfl⟩ : ∃ m, k = m + 1 := ⟨k - 1, by omega⟩
    have hc := colw_le w i o
    simp only [impl_JoinLanes.l1]
    rw [if_pos (by omega), if_pos (by omega), if_pos (by rw [stripe_length]; omega), stripe_rd o w i (by omega), if_pos (by rw [List.length_cons]; omega), if_pos (by omega), List.drop_succ_cons, List.drop_zero, eqI _ _ (by omega) k (by omega), decide_eq_true (h i (by omega))]
    simp only [Option.bind_some, if_true]
    rw [wrap_succ i (by omega)]
    exact ih (i + 1) (by omega) k (by omega)
theorem iJ_no (L : List (List Int)) (w : Nat) (hl : L.length = w) (hw : w ≤ 4) (o : List Int) (ho : o.length ≤ 40) (i0 : Nat) (hi0 : i0 < w) (h : ¬ colw w i0 o = rd_L1 L (i0 : Int)) (d : Nat) : ∀ i : Nat, i + d = i0 → ∀ k, d + 50 < k → impl_JoinLanes.l1 k L o (stripeL o w) (w : Int) (i : Int) = some ([], false) := by
  induction d with
  | zero =>
    intro i hi k hk
    obtain ⟨k, rfl⟩ : ∃ m, k = m + 1 := ⟨k - 1, by omega⟩
    obtain rfl : i = i0 := by omega
    have hc := colw_le w i o
    simp only [impl_JoinLanes.l1]
    rw [if_pos (by omega), if_pos (by omega), if_pos (by rw [stripe_length]; omega), stripe_rd o w i (by omega), if_pos (by rw [List.length_cons]; omega), if_pos (by omega), List.drop_succ_cons, List.drop_zero, eqI _ _ (by omega) k (by omega), decide_eq_false h]
    simp
  | succ d ih =>
    intro i hi k hk
    obtain ⟨k, rfl⟩ : ∃ m, k = m + 1 := ⟨k - 1, by omega⟩
    have hc := colw_le w i o
    simp only [impl_JoinLanes.l1]
    rw [if_pos (by omega), if_pos (by omega), if_pos (by rw [stripe_length]; omega), stripe_rd o w i (by omega), if_pos (by rw [List.length_cons]; omega), if_pos (by omega), List.drop_succ_cons, List.drop_zero, eqI _ _ (by omega) k (by omega)]
    simp only [Option.bind_some]
    by_cases hq : colw w i o = rd_L1 L (i : Int)
    · rw [decide_eq_true hq, if_pos rfl, wrap_succ i (by omega)]
      exact ih (i + 1) (by omega) k (by omega)
    · rw [decide_eq_false hq, if_neg (by simp)]
theorem iJ_l0 (L : List (List Int)) (hL : ∀ x ∈ L, x.length ≤ 1048576) (w : Nat) (hw : w = 1 ∨ w = 2 ∨ w = 4) (hl : L.length = w) (M : Nat) (hM : M ≤ totL L) (hv : ∀ k, k < M → Has L w k) (hx : ¬ Has L w M) (d : Nat) :
    ∀ m : Nat, m + d = M → ∀ k, d + 5000000 < k → impl_JoinLanes.l0 k L (inter L w m) (w : Int) (m : Int) = some (joinR L w) := by
  obtain ⟨j1, j2⟩ := join_at L w hw hl M hM hv hx
  have ht := totL_le 1048576 L hL
  have htm : ∀ m : Nat, Int.tmod (m : Int) (w : Int) = ((m % w : Nat) : Int) := fun m => by rw [Int.tmod_eq_emod_of_nonneg (by omega)]; rfl
  have htd : ∀ m : Nat, Int.tdiv (m : Int) (w : Int) = ((dv m w : Nat) : Int) := fun m => by rw [Int.tdiv_eq_ediv_of_nonneg (by omega)]; rfl
  have hmd : ∀ m : Nat, dv m w ≤ m := fun m => dv_le m w
  induction d with
  | zero =>
    intro m hm k hk
    obtain ⟨k, rfl⟩ : ∃ m, k = m + 1 := ⟨k - 1, by omega⟩
    obtain rfl : m = M := by omega
    have hmw : m % w < w := Nat.mod_lt _ (by omega)
    have hd := hmd m
    have hh := hx
    unfold Has at hh
    simp only [impl_JoinLanes.l0]
    rw [if_neg (by omega), htm m, if_pos (by omega), if_pos (by omega), htd m, wrap_id _ (by omega), if_neg (by omega), iStripe_any (inter L w m) (w : Int) k (by omega)]
    simp only [Option.bind_some]
    by_cases hb : bytesB (inter L w m) = true
    · have hr : stripeR (inter L w m) (w : Int) = stripeL (inter L w m) w := by
        unfold stripeR
        rw [if_pos ⟨hb, by unfold wdB; rcases hw with rfl | rfl | rfl <;> rfl⟩, toNat_nat]
      have h40 := bytesB_len hb
      rw [inter_len] at h40
      rw [hr, stripe_length, if_neg (by omega)]
      by_cases hall : ∀ i, i < w → colw w i (inter L w m) = rd_L1 L (i : Int)
      · rw [j1 (all_out L w hw hl m hv hall), if_pos hb]
        exact iJ_yes L w hl (by omega) _ (by rw [inter_len]; omega) hall w 0 (by omega) k (by omega)
      · have hne : ∃ i, i < w ∧ ¬ colw w i (inter L w m) = rd_L1 L (i : Int) := by
          by_cases hc : ∃ i, i < w ∧ ¬ colw w i (inter L w m) = rd_L1 L (i : Int)
          · exact hc
          · exact absurd (fun i hi => by
              by_cases he : colw w i (inter L w m) = rd_L1 L (i : Int)
              · exact he
              · exact absurd ⟨i, hi, he⟩ hc) hall
        obtain ⟨i0, hi0, hne⟩ := hne
        have hlt : m < totL L := by
          by_cases he : m = totL L
          · exact absurd (fun i hi => by rw [he]; exact all_in L w hw hl (he ▸ hv) i hi) hall
          · omega
        rw [j2 hlt]
        exact iJ_no L w hl (by omega) _ (by rw [inter_len]; omega) i0 hi0 hne i0 0 (by omega) k (by omega)
    · have hr : stripeR (inter L w m) (w : Int) = [] := by
        unfold stripeR
        rw [if_neg (fun h => hb h.1)]
      rw [hr, if_pos (by simp), iAreBytes_ev _ k (by omega)]
      simp only [Option.bind_some]
      rw [if_neg hb]
      by_cases he : m = totL L
      · rw [j1 he, if_neg hb]
      · rw [j2 (by omega)]
  | succ d ih =>
    intro m hm k hk
    obtain ⟨k, rfl⟩ : ∃ m, k = m + 1 := ⟨k - 1, by omega⟩
    have hmw : m % w < w := Nat.mod_lt _ (by omega)
    have hd := hmd m
    have hh := hv m (by omega)
    unfold Has at hh
    simp only [impl_JoinLanes.l0]
    rw [if_neg (by omega), htm m, if_pos (by omega), if_pos (by omega), htd m, wrap_id _ (by omega), if_pos (by omega), if_pos (by omega), if_pos (by rw [inter_len]; omega), wrap_succ m (by omega)]
    have e : inter L w m ++ [rd (rd_L1 L ((m % w : Nat) : Int)) ((dv m w : Nat) : Int)] = inter L w (m + 1) := (inter_succ L w m).symm
    rw [e]
    exact ih (m + 1) (by omega) k (by omega)
theorem iJoin_ev (L : List (List Int)) (hL : ∀ x ∈ L, x.length ≤ 1048576) (k : Nat) (hk : 10000000 < k) : impl_JoinLanes.f k L = some (if wdB (L.length : Int) = true then joinR L L.length else ([], false)) := by
  unfold impl_JoinLanes.f
  rw [iIsWidth_eq]
  simp only [Option.bind_some]
  by_cases h : wdB (L.length : Int) = true
  · obtain ⟨w, hw, hw'⟩ := wdB_nat _ h
    have hl : L.length = w := by omega
    obtain ⟨M, hM, hv, hx⟩ := first_out L w hw' hl
    have ht := totL_le 1048576 L hL
    rw [if_pos h, if_pos h, hl]
    exact iJ_l0 L hL w hw' hl M hM hv hx M 0 (by omega) k (by omega)
  · rw [if_neg h, if_neg h]
theorem joinR_len (L : List (List Int)) (w : Nat) : (joinR L w).1.length ≤ 40 := by
  unfold joinR
  split
  · rename_i h
    exact bytesB_len h.2
  · simp
theorem FnExactJoinLanes : laws_FnExactJoinLanes.Pure := by
  intro l ⟨hl, hw⟩
  obtain ⟨r, hr, _, hs⟩ := szIntSS_ev l 1048576 (by omega) (by omega) hl (fun x hx => (hw x hx).1)
  refine ⟨10000001, ?_⟩
  unfold laws_FnExactJoinLanes.f
  rw [hr 10000001 (by omega)]
  simp only [Option.bind_some]
  by_cases h : r < 0
  · rw [if_pos h]
  obtain ⟨hn, hE⟩ := hs (by omega)
  have hi := iJoin_ev l hE 10000001 (by omega)
  have hp := sJoin_ev l hE 10000001 (by omega)
  obtain ⟨q, hq, hq2⟩ : ∃ q, (if wdB (l.length : Int) = true then joinR l l.length else ([], false)) = q ∧ q.1.length ≤ 40 := ⟨_, rfl, by split; exact joinR_len _ _; simp⟩
  rw [hq] at hi hp
  have ht := totL_le 1048576 l hE
  have hm0 := markSS_ev l 1 (by omega) (by omega) hn hE 10000001 (by omega)
  rw [if_neg h]
  simp only [toIntSS_ev l hn hE 10000001 (by omega), Option.bind_some, hi, hp, eqIntS_ev q.1 q.1 (by omega) 10000001 (by omega), eqIntSS_ev l l hn hE 10000001 (by omega), hm0, markIntS_ev q.1 1 (by omega) (by omega) (by omega) 10000001 (by omega), heldIntS_ev q.1.length 1 (by omega) (by omega) (by omega) 10000001 (by omega), decide_true, if_true]
  rw [if_pos (by omega), if_pos (by omega), if_pos (by omega)]

end Go.Proofs.Ytoafbbopicbofaa.Pure
