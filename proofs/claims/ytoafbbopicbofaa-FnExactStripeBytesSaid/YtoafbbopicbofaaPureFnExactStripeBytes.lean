/- The statement FnExactStripeBytes over whole numbers and lists of such: the program and the reference part bytes over lanes alike, neither changes what it is given, and the program's answer shares no memory with its arguments or with the answer of another call. Lists that are longer than the law's own bound are let by, as the law itself does. -/
import Derived.Test.YtoafbbopicbofaaPFnExactStripeBytesx4
import Derived.Test.YtoafbbopicbofaaXLists
namespace Go.Proofs.Ytoafbbopicbofaa.Pure
set_option linter.unusedVariables false
set_option linter.unusedSimpArgs false
open Go.RowKit Go.Proofs.Ytoafbbopicbofaa.PFnExactStripeBytes Go.Proofs.YtoafbbopicbofaaW.PrintWords Go.Proofs.YtoafbbopicbofaaW.PrintLast Go.Proofs.YtoafbbopicbofaaW.PrintMore Go.Proofs.YtoafbbopicbofaaX

theorem within_eq (a l m : Int) : impl_within.f a l m = some (decide (l ≤ a ∧ a ≤ m)) := by
  unfold impl_within.f
  by_cases h : a ≥ l
  · have h' : l ≤ a := h
    rw [if_pos h]; simp [h']
  · have h' : ¬ l ≤ a := h
    rw [if_neg h]; simp [h']
theorem l01In_eq (a l m : Int) : spec_l01In.f a l m = some (decide (l ≤ a ∧ a ≤ m)) := by
  unfold spec_l01In.f
  by_cases h : a ≥ l
  · have h' : l ≤ a := h
    rw [if_pos h]; simp [h']
  · have h' : ¬ l ≤ a := h
    rw [if_neg h]; simp [h']
theorem any_not {α : Type} (l : List α) (p : α → Bool) : (!l.any fun x => !p x) = l.all p := by
  induction l with
  | nil => rfl
  | cons a l ih => rw [List.any_cons, List.all_cons, Bool.not_or, ih, Bool.not_not]
def SmallE (x : List Int) : Prop := x.length ≤ 1048576
theorem rdL_lt (l : List (List Int)) (i : Nat) (h : i < l.length) : rd_L1 l (i : Int) = l[i] := by
  show l.getD i [] = l[i]
  simp [h]
theorem toIntS_l0 (l : List Int) (hb : l.length ≤ 1048576) (d : Nat) : ∀ (x : List Int) (i : Nat), x.length = l.length → x.take i = l.take i → i + d = l.length → ∀ k, d < k → laws_toIntS.l0 k l x (i : Int) = some l := by
  induction d with
  | zero =>
    intro x i hx ht hi k hk
    obtain ⟨k, rfl⟩ : ∃ m, k = m + 1 := ⟨k - 1, by omega⟩
    simp only [laws_toIntS.l0]
    rw [if_neg (show ¬ (i : Int) < (l.length : Int) by omega), fill_end x l i hx (by omega) ht]
  | succ d ih =>
    intro x i hx ht hi k hk
    obtain ⟨k, rfl⟩ : ∃ m, k = m + 1 := ⟨k - 1, by omega⟩
    simp only [laws_toIntS.l0]
    rw [if_pos (show (i : Int) < (l.length : Int) by omega), if_pos (show (0 : Int) ≤ (i : Int) by omega), if_pos (show (i : Int) < (x.length : Int) by omega), wrap_succ i (by omega), toNat_nat, rd_lt l i (by omega)]
    exact ih _ (i + 1) (by simp [hx]) (fill_step x l i _ (by omega) (by omega) ht rfl) (by omega) k (by omega)
theorem toIntS_ev (l : List Int) (hb : l.length ≤ 1048576) : ∀ k, l.length < k → laws_toIntS.f k l = some l := by
  intro k hk
  unfold laws_toIntS.f
  rw [if_pos (by omega), if_pos (by omega)]
  exact toIntS_l0 l hb l.length _ 0 (by simp) (by simp) (by omega) k hk
theorem eqIntS_l0 (a b : List Int) (hl : a.length = b.length) (hb : a.length < 9223372036854775807) (d : Nat) : ∀ (i : Nat), i + d = a.length → ∀ k, d < k → laws_eqIntS.l0 k a b (i : Int) = some (decide (a.drop i = b.drop i)) := by
  induction d with
  | zero =>
    intro i hi k hk
    obtain ⟨k, rfl⟩ : ∃ m, k = m + 1 := ⟨k - 1, by omega⟩
    simp only [laws_eqIntS.l0]
    rw [if_neg (show ¬ (i : Int) < (a.length : Int) by omega), drop_all a i (by omega), drop_all b i (by omega)]
    simp
  | succ d ih =>
    intro i hi k hk
    obtain ⟨k, rfl⟩ : ∃ m, k = m + 1 := ⟨k - 1, by omega⟩
    simp only [laws_eqIntS.l0]
    rw [if_pos (show (i : Int) < (a.length : Int) by omega), if_pos (show (0 : Int) ≤ (i : Int) by omega), if_pos (show (i : Int) < (b.length : Int) by omega)]
    by_cases he : rd a (i : Int) = rd b (i : Int)
    · rw [if_pos he, wrap_succ i (by omega), ih (i + 1) (by omega) k (by omega)]
      congr 1
      rw [decide_eq_decide, drop_eq_iff a b i (by omega) (by omega)]
      exact ⟨fun h => ⟨he, h⟩, fun h => h.2⟩
    · rw [if_neg he]
      congr 1
      symm
      rw [decide_eq_false_iff_not, drop_eq_iff a b i (by omega) (by omega)]
      exact fun h => he h.1
theorem eqIntS_ev (a b : List Int) (hb : a.length < 9223372036854775807) : ∀ k, a.length < k → laws_eqIntS.f k a b = some (decide (a = b)) := by
  intro k hk
  unfold laws_eqIntS.f
  by_cases hl : a.length = b.length
  · rw [if_pos (by omega)]
    exact eqIntS_l0 a b hl hb a.length 0 (by omega) k hk
  · rw [if_neg (by omega), decide_eq_false (fun h => hl (by rw [h]))]
theorem eqIntSS_l0 (a b : List (List Int)) (hl : a.length = b.length) (hb : a.length ≤ 1048576) (he : ∀ x ∈ a, SmallE x) (d : Nat) : ∀ (i : Nat), i + d = a.length → ∀ k, 1048577 + d < k → laws_eqIntSS.l0 k a b (i : Int) = some (decide (a.drop i = b.drop i)) := by
  induction d with
  | zero =>
    intro i hi k hk
    obtain ⟨k, rfl⟩ : ∃ m, k = m + 1 := ⟨k - 1, by omega⟩
    simp only [laws_eqIntSS.l0]
    rw [if_neg (show ¬ (i : Int) < (a.length : Int) by omega), drop_all a i (by omega), drop_all b i (by omega)]
    simp
  | succ d ih =>
    intro i hi k hk
    obtain ⟨k, rfl⟩ : ∃ m, k = m + 1 := ⟨k - 1, by omega⟩
    have h1 : i < a.length := by omega
    have h2 : i < b.length := by omega
    simp only [laws_eqIntSS.l0]
    rw [if_pos (show (i : Int) < (a.length : Int) by omega), if_pos (show (0 : Int) ≤ (i : Int) by omega), if_pos (show (i : Int) < (b.length : Int) by omega), rdL_lt a i h1, rdL_lt b i h2, eqIntS_ev a[i] b[i] (by have := (he _ (List.getElem_mem h1)); unfold SmallE at this; omega) k (by have := (he _ (List.getElem_mem h1)); unfold SmallE at this; omega)]
    simp only [Option.bind_some]
    by_cases hq : a[i] = b[i]
    · rw [if_pos (decide_eq_true hq), wrap_succ i (by omega), ih (i + 1) (by omega) k (by omega)]
      congr 1
      rw [decide_eq_decide, drop_cons a i h1, drop_cons b i h2, List.cons.injEq]
      exact ⟨fun h => ⟨hq, h⟩, fun h => h.2⟩
    · rw [if_neg (by simp [hq])]
      congr 1
      symm
      rw [decide_eq_false_iff_not, drop_cons a i h1, drop_cons b i h2, List.cons.injEq]
      exact fun h => hq h.1
theorem eqIntSS_ev (a b : List (List Int)) (hb : a.length ≤ 1048576) (he : ∀ x ∈ a, SmallE x) : ∀ k, 1048577 + a.length < k → laws_eqIntSS.f k a b = some (decide (a = b)) := by
  intro k hk
  unfold laws_eqIntSS.f
  by_cases hl : a.length = b.length
  · rw [if_pos (by omega)]
    exact eqIntSS_l0 a b hl hb he a.length 0 (by omega) k hk
  · rw [if_neg (by omega), decide_eq_false (fun h => hl (by rw [h]))]
def byteB (x : Int) : Bool := decide (0 ≤ x ∧ x ≤ 255)
def bytesB (l : List Int) : Bool := l.all byteB && decide (l.length ≤ 40)
theorem sAreBytes_l0 (l : List (Int)) (hl : l.length ≤ 1048576) (d : Nat) : ∀ i : Nat, i + d = l.length → ∀ k, 0 + d < k → spec_AreBytes.l0 k l (i : Int) = some ((l.drop i).all byteB && decide (l.length ≤ 40)) := by
  induction d with
  | zero =>
    intro i hi k hk
    obtain ⟨k, rfl⟩ : ∃ m, k = m + 1 := ⟨k - 1, by omega⟩
    simp only [spec_AreBytes.l0]
    rw [if_neg (show ¬ (i : Int) < (l.length : Int) by omega), drop_all l i (by omega)]
    simp; omega
  | succ d ih =>
    intro i hi k hk
    obtain ⟨k, rfl⟩ : ∃ m, k = m + 1 := ⟨k - 1, by omega⟩
    have hlt : i < l.length := by omega
    simp only [spec_AreBytes.l0]
    rw [if_pos (show (i : Int) < (l.length : Int) by omega), if_pos (show (0 : Int) ≤ (i : Int) by omega), rd_lt l i hlt, show spec_l01In.f l[i] 0 255 = some (byteB l[i]) from l01In_eq _ _ _]
    simp only [Option.bind_some]
    by_cases hp : byteB l[i] = true
    · rw [if_pos hp, wrap_succ i (by omega), ih (i + 1) (by omega) k (by omega), drop_cons l i hlt, List.all_cons, hp, Bool.true_and]
    · rw [if_neg hp, drop_cons l i hlt, List.all_cons, Bool.eq_false_iff.mpr hp, Bool.false_and, Bool.false_and]
theorem sAreBytes_ev (l : List Int) (hl : l.length ≤ 1048576) (k : Nat) (hk : l.length < k) : spec_AreBytes.f k l = some (bytesB l) := sAreBytes_l0 l hl l.length 0 (by omega) k (by omega)
theorem notByte_eq (x : Int) : impl_AreBytes_1.f x = some (!byteB x) := by
  unfold impl_AreBytes_1.f impl_isByte.f
  rw [within_eq]
  rfl
theorem cBytes_l0 (l : List (Int)) (hl : l.length ≤ 1048576) (d : Nat) : ∀ i : Nat, i + d = l.length → ∀ k, 0 + d < k → ∃ r, slices_IndexFunc_int_int__impl_AreBytes_1.l0 k l (l.length : Int) (i : Int) = some r ∧ decide (r ≥ 0) = (l.drop i).any (fun x => !byteB x) := by
  induction d with
  | zero =>
    intro i hi k hk
    obtain ⟨k, rfl⟩ : ∃ m, k = m + 1 := ⟨k - 1, by omega⟩
    refine ⟨-1, ?_, ?_⟩
    · simp only [slices_IndexFunc_int_int__impl_AreBytes_1.l0]
      rw [if_neg (show ¬ (i : Int) < (l.length : Int) by omega)]
    · rw [drop_all l i (by omega)]; rfl
  | succ d ih =>
    intro i hi k hk
    obtain ⟨k, rfl⟩ : ∃ m, k = m + 1 := ⟨k - 1, by omega⟩
    have hlt : i < l.length := by omega
    simp only [slices_IndexFunc_int_int__impl_AreBytes_1.l0]
    rw [if_pos (show (i : Int) < (l.length : Int) by omega), if_pos (show (0 : Int) ≤ (i : Int) by omega), if_pos (show (i : Int) < (l.length : Int) by omega), rd_lt l i hlt, notByte_eq l[i]]
    simp only [Option.bind_some]
    by_cases hp : (fun x => !byteB x) l[i] = true
    · rw [if_pos hp]
      exact ⟨_, rfl, by rw [any_drop_yes l i hlt _ hp, decide_eq_true (by omega)]⟩
    · rw [if_neg hp, wrap_succ i (by omega)]
      obtain ⟨r, h1, h2⟩ := ih (i + 1) (by omega) k (by omega)
      exact ⟨r, h1, by rw [h2, any_drop_no l i hlt _ hp]⟩
theorem cBytes_ev (l : List (Int)) (hl : l.length ≤ 1048576) (k : Nat) (hk : 0 + l.length < k) : slices_ContainsFunc_int_int__impl_AreBytes_1.f k l = some (l.any (fun x => !byteB x)) := by
  obtain ⟨r, h1, h2⟩ := cBytes_l0 l hl l.length 0 (by omega) k hk
  unfold slices_ContainsFunc_int_int__impl_AreBytes_1.f slices_IndexFunc_int_int__impl_AreBytes_1.f
  have c0 : ((0 : Nat) : Int) = 0 := rfl
  rw [c0] at h1
  rw [h1]
  simp only [Option.bind_some]
  rw [h2]; rfl
theorem iAreBytes_ev (l : List Int) (k : Nat) (hk : 40 < k) : impl_AreBytes.f k l = some (bytesB l) := by
  unfold impl_AreBytes.f bytesB
  by_cases h : (l.length : Int) ≤ 40
  · rw [if_pos h, cBytes_ev l (by omega) k (by omega)]
    simp only [Option.bind_some]
    rw [any_not, decide_eq_true (show l.length ≤ 40 by omega), Bool.and_true]
  · rw [if_neg h, decide_eq_false (show ¬ l.length ≤ 40 by omega), Bool.and_false]
/-- The numbers s, s + 1, .. -/
def markL (n : Nat) (s : Int) : List Int := (List.range n).map fun (i : Nat) => s + (i : Int)
theorem markL_length (n : Nat) (s : Int) : (markL n s).length = n := by simp [markL]
theorem markL_get (n : Nat) (s : Int) (i : Nat) (h : i < (markL n s).length) : (markL n s)[i] = s + (i : Int) := by simp [markL]
theorem markIntS_l0 (n : Nat) (s : Int) (hn : n ≤ 1048576) (h0 : 0 ≤ s) (h1 : s ≤ 1000000000000) (d : Nat) : ∀ (x : List Int) (i : Nat), x.length = n → x.take i = (markL n s).take i → i + d = n → ∀ k, d < k → laws_markIntS.l0 k x (s + (i : Int)) (i : Int) = some (s + (n : Int), markL n s) := by
  induction d with
  | zero =>
    intro x i hx ht hi k hk
    obtain ⟨k, rfl⟩ : ∃ m, k = m + 1 := ⟨k - 1, by omega⟩
    simp only [laws_markIntS.l0]
    have hlen := markL_length n s
    rw [if_neg (show ¬ (i : Int) < (x.length : Int) by omega), fill_end x (markL n s) i (by omega) (by omega) ht, show i = n by omega]
  | succ d ih =>
    intro x i hx ht hi k hk
    obtain ⟨k, rfl⟩ : ∃ m, k = m + 1 := ⟨k - 1, by omega⟩
    have hlen := markL_length n s
    simp only [laws_markIntS.l0]
    rw [if_pos (show (i : Int) < (x.length : Int) by omega), if_pos (show (0 : Int) ≤ (i : Int) by omega), wrap_succ i (by omega), toNat_nat, wrap_id (s + (i : Int) + 1) (by omega)]
    have e : s + (i : Int) + 1 = s + ((i + 1 : Nat) : Int) := by omega
    rw [e]
    exact ih _ (i + 1) (by simp [hx]) (fill_step x (markL n s) i _ (by omega) (by omega) ht (markL_get n s i (by omega)).symm) (by omega) k (by omega)
theorem markIntS_ev (l : List Int) (s : Int) (hn : l.length ≤ 1048576) (h0 : 0 ≤ s) (h1 : s ≤ 1000000000000) (k : Nat) (hk : l.length < k) : laws_markIntS.f k l s = some (s + (l.length : Int), markL l.length s) := by
  unfold laws_markIntS.f
  have h := markIntS_l0 l.length s hn h0 h1 l.length l 0 rfl (by simp) (by omega) k hk
  simpa using h
theorem heldIntS_l0 (n : Nat) (s : Int) (hn : n ≤ 1048576) (h0 : 0 ≤ s) (h1 : s ≤ 1000000000000) (d : Nat) : ∀ (i : Nat), i + d = n → ∀ k, d < k → laws_heldIntS.l0 k (markL n s) (s + (i : Int)) (i : Int) = some (s + (n : Int)) := by
  have hlen := markL_length n s
  induction d with
  | zero =>
    intro i hi k hk
    obtain ⟨k, rfl⟩ : ∃ m, k = m + 1 := ⟨k - 1, by omega⟩
    simp only [laws_heldIntS.l0]
    rw [if_neg (show ¬ (i : Int) < ((markL n s).length : Int) by omega), show i = n by omega]
  | succ d ih =>
    intro i hi k hk
    obtain ⟨k, rfl⟩ : ∃ m, k = m + 1 := ⟨k - 1, by omega⟩
    simp only [laws_heldIntS.l0]
    rw [if_pos (show (i : Int) < ((markL n s).length : Int) by omega), if_pos (show (0 : Int) ≤ (i : Int) by omega), rd_lt _ i (by omega), markL_get n s i (by omega), if_pos rfl, wrap_succ i (by omega), wrap_id (s + (i : Int) + 1) (by omega)]
    have e : s + (i : Int) + 1 = s + ((i + 1 : Nat) : Int) := by omega
    rw [e]
    exact ih (i + 1) (by omega) k (by omega)
theorem heldIntS_ev (n : Nat) (s : Int) (hn : n ≤ 1048576) (h0 : 0 ≤ s) (h1 : s ≤ 1000000000000) (k : Nat) (hk : n < k) : laws_heldIntS.f k (markL n s) s = some (s + (n : Int)) := by
  unfold laws_heldIntS.f
  have h := heldIntS_l0 n s hn h0 h1 n 0 (by omega) k hk
  simpa using h
theorem bytesB_len {l : List Int} (h : bytesB l = true) : l.length ≤ 40 := by
  unfold bytesB at h
  simp only [Bool.and_eq_true, decide_eq_true_eq] at h
  exact h.2
/-- All rows' lengths. -/
def totL : List (List Int) → Nat
  | [] => 0
  | x :: l => x.length + totL l
def markLL : List (List Int) → Int → List (List Int)
  | [], _ => []
  | x :: l, s => markL x.length s :: markLL l (s + (x.length : Int))
theorem rdL_mid (done : List (List Int)) (x : List Int) (rest : List (List Int)) : rd_L1 (done ++ x :: rest) (done.length : Int) = x := by
  unfold rd_L1
  rw [toNat_nat]
  simp
theorem set_mid {α : Type} (done : List α) (x y : α) (rest : List α) : (done ++ x :: rest).set done.length y = (done ++ [y]) ++ rest := by
  rw [List.set_append_right _ _ (Nat.le_refl _)]
  simp
theorem markSS_l0 (rest : List (List Int)) : ∀ (done : List (List Int)) (s : Int), 0 ≤ s → s + (totL rest : Int) ≤ 1000000000000 → done.length + rest.length ≤ 1048576 → (∀ x ∈ rest, x.length ≤ 1048576) → ∀ k, 1048577 + rest.length < k → laws_markIntSS.l0 k (done ++ rest) s (done.length : Int) = some (s + (totL rest : Int), done ++ markLL rest s) := by
  induction rest with
  | nil =>
    intro done s h0 h1 hl hs k hk
    obtain ⟨k, rfl⟩ : ∃ m, k = m + 1 := ⟨k - 1, by omega⟩
    simp only [laws_markIntSS.l0]
    rw [if_neg (by rw [List.append_nil]; omega)]
    simp [totL, markLL]
  | cons x rest ih =>
    intro done s h0 h1 hl hs k hk
    obtain ⟨k, rfl⟩ : ∃ m, k = m + 1 := ⟨k - 1, by omega⟩
    have hx := hs x (by simp)
    simp only [List.length_cons] at hk hl
    have ht : totL (x :: rest) = x.length + totL rest := rfl
    simp only [laws_markIntSS.l0]
    rw [if_pos (by rw [List.length_append, List.length_cons]; omega), if_pos (by omega), rdL_mid, markIntS_ev x s hx h0 (by omega) k (by omega)]
    simp only [Option.bind_some]
    rw [wrap_succ _ (by omega), toNat_nat, set_mid]
    have h := ih (done ++ [markL x.length s]) (s + (x.length : Int)) (by omega) (by omega) (by rw [List.length_append, List.length_singleton]; omega) (fun y hy => hs y (by simp [hy])) k (by omega)
    rw [List.length_append, List.length_singleton] at h
    rw [h, ht]
    simp only [markLL, List.append_assoc, List.singleton_append]
    congr 2
    omega
theorem markSS_ev (l : List (List Int)) (s : Int) (h0 : 0 ≤ s) (h1 : s + (totL l : Int) ≤ 1000000000000) (hl : l.length ≤ 1048576) (hs : ∀ x ∈ l, x.length ≤ 1048576) (k : Nat) (hk : 2097155 < k) : laws_markIntSS.f k l s = some (s + (totL l : Int), markLL l s) := by
  unfold laws_markIntSS.f
  exact markSS_l0 l [] s h0 h1 (by simpa using hl) hs k (by omega)
theorem heldSS_l0 (rest : List (List Int)) : ∀ (done : List (List Int)) (s : Int), 0 ≤ s → s + (totL rest : Int) ≤ 1000000000000 → done.length + rest.length ≤ 1048576 → (∀ x ∈ rest, x.length ≤ 1048576) → ∀ k, 1048577 + rest.length < k → laws_heldIntSS.l0 k (done ++ markLL rest s) s (done.length : Int) = some (s + (totL rest : Int)) := by
  induction rest with
  | nil =>
    intro done s h0 h1 hl hs k hk
    obtain ⟨k, rfl⟩ : ∃ m, k = m + 1 := ⟨k - 1, by omega⟩
    simp only [laws_heldIntSS.l0]
    rw [if_neg (by simp only [markLL, List.append_nil]; omega)]
    simp [totL]
  | cons x rest ih =>
    intro done s h0 h1 hl hs k hk
    obtain ⟨k, rfl⟩ : ∃ m, k = m + 1 := ⟨k - 1, by omega⟩
    have hx := hs x (by simp)
    simp only [List.length_cons] at hk hl
    have ht : totL (x :: rest) = x.length + totL rest := rfl
    show laws_heldIntSS.l0 (k + 1) (done ++ markL x.length s :: markLL rest (s + (x.length : Int))) s (done.length : Int) = _
    simp only [laws_heldIntSS.l0]
    rw [if_pos (by rw [List.length_append, List.length_cons]; omega), if_pos (by omega), rdL_mid, heldIntS_ev x.length s hx h0 (by omega) k (by omega)]
    simp only [Option.bind_some]
    rw [if_neg (by omega), wrap_succ _ (by omega)]
    have h := ih (done ++ [markL x.length s]) (s + (x.length : Int)) (by omega) (by omega) (by rw [List.length_append, List.length_singleton]; omega) (fun y hy => hs y (by simp [hy])) k (by omega)
    rw [List.length_append, List.length_singleton, List.append_assoc, List.singleton_append] at h
    rw [h, ht]
    congr 1
    omega
theorem heldSS_ev (l : List (List Int)) (s : Int) (h0 : 0 ≤ s) (h1 : s + (totL l : Int) ≤ 1000000000000) (hl : l.length ≤ 1048576) (hs : ∀ x ∈ l, x.length ≤ 1048576) (k : Nat) (hk : 2097155 < k) : laws_heldIntSS.f k (markLL l s) s = some (s + (totL l : Int)) := by
  unfold laws_heldIntSS.f
  exact heldSS_l0 l [] s h0 h1 (by simpa using hl) hs k (by omega)
theorem totL_le (m : Nat) (l : List (List Int)) (h : ∀ x ∈ l, x.length ≤ m) : totL l ≤ l.length * m := by
  induction l with
  | nil => simp [totL]
  | cons x l ih =>
    have h1 := h x (by simp)
    have h2 := ih (fun y hy => h y (by simp [hy]))
    simp only [totL, List.length_cons, Nat.succ_mul]
    omega
/-- What falls to lane i. -/
def colw (w i : Nat) (l : List Int) : List Int := (l.zipIdx.filter (fun p => p.2 % w == i)).map (·.1)
def stripeL (l : List Int) (w : Nat) : List (List Int) := (List.range w).map fun i => 256 :: colw w i l
theorem colw_snoc (w i : Nat) (l : List Int) (x : Int) : colw w i (l ++ [x]) = colw w i l ++ (if l.length % w = i then [x] else []) := by
  unfold colw
  rw [List.zipIdx_append, List.filter_append, List.map_append]
  congr 1
  by_cases h : l.length % w = i <;> simp [h]
theorem colw_take (w i : Nat) (l : List Int) (j : Nat) (h : j < l.length) : colw w i (l.take (j + 1)) = colw w i (l.take j) ++ (if j % w = i then [l[j]] else []) := by
  rw [take_snoc l j h, colw_snoc, List.length_take, Nat.min_eq_left (by omega)]
theorem colw_le (w i : Nat) (l : List Int) : (colw w i l).length ≤ l.length := by
  unfold colw
  rw [List.length_map]
  exact Nat.le_trans (List.length_filter_le _ _) (by simp)
theorem stripe_length (l : List Int) (w : Nat) : (stripeL l w).length = w := by simp [stripeL]
theorem stripe_get (l : List Int) (w i : Nat) (h : i < (stripeL l w).length) : (stripeL l w)[i] = 256 :: colw w i l := by simp [stripeL]
theorem stripe_rd (l : List Int) (w i : Nat) (h : i < w) : rd_L1 (stripeL l w) (i : Int) = 256 :: colw w i l := by
  rw [rdL_lt _ i (by rw [stripe_length]; exact h), stripe_get]
theorem stripe_step (l : List Int) (w j : Nat) (hw : 0 < w) (h : j < l.length) : (stripeL (l.take j) w).set (j % w) ((256 :: colw w (j % w) (l.take j)) ++ [l[j]]) = stripeL (l.take (j + 1)) w := by
  apply List.ext_getElem
  · rw [List.length_set, stripe_length, stripe_length]
  · intro i h1 h2
    rw [List.length_set, stripe_length] at h1
    rw [stripe_get, colw_take w i l j h, List.getElem_set]
    by_cases hi : j % w = i
    · rw [if_pos hi, if_pos hi, hi]; simp
    · rw [if_neg hi, if_neg hi, stripe_get]; simp
def wdB (a : Int) : Bool := if a = 1 then true else if a = 2 then true else (a == 4)
theorem wdB_nat (a : Int) (h : wdB a = true) : ∃ w : Nat, a = (w : Int) ∧ (w = 1 ∨ w = 2 ∨ w = 4) := by
  unfold wdB at h
  split at h
  · exact ⟨1, by omega, by omega⟩
  split at h
  · exact ⟨2, by omega, by omega⟩
  · exact ⟨4, by have := beq_iff_eq.mp h; omega, by omega⟩
theorem sIsWidth_eq (a : Int) : spec_IsWidth.f a = some (wdB a) := by
  unfold spec_IsWidth.f wdB
  split
  · rfl
  split <;> rfl
theorem iIsWidth_eq (a : Int) : impl_IsWidth.f a = some (wdB a) := by
  unfold impl_IsWidth.f wdB
  split
  · rfl
  split <;> rfl
theorem iRows (l : List Int) (w : Nat) (hw : w ≤ 4) (d : Nat) : ∀ (i : Nat), i + d = w → ∀ k, impl_StripeBytes.l0 (k + d + 1) l (w : Int) (List.replicate i [256]) (w : Int) (i : Int) = impl_StripeBytes.l1 k (w : Int) (List.replicate w [256]) l (l.length : Int) 0 := by
  induction d with
  | zero =>
    intro i hi k
    have : i = w := by omega
    subst this
    simp only [impl_StripeBytes.l0]
    rw [if_neg (by omega)]
  | succ d ih =>
    intro i hi k
    rw [show k + (d + 1) + 1 = (k + d + 1) + 1 by omega]
    simp only [impl_StripeBytes.l0]
    rw [if_pos (by omega), if_pos (by rw [List.length_replicate]; omega), wrap_succ i (by omega), ← List.replicate_succ']
    exact ih (i + 1) (by omega) k
theorem stripe_nil (w : Nat) : stripeL [] w = List.replicate w [256] := by
  apply List.ext_getElem
  · rw [stripe_length, List.length_replicate]
  · intro i h1 h2
    rw [stripe_get, List.getElem_replicate]
    rfl
theorem iCols (l : List Int) (hl : l.length ≤ 1048576) (w : Nat) (hw : w = 1 ∨ w = 2 ∨ w = 4) (d : Nat) : ∀ j : Nat, j + d = l.length → ∀ k, d < k → impl_StripeBytes.l1 k (w : Int) (stripeL (l.take j) w) l (l.length : Int) (j : Int) = some (stripeL l w) := by
  induction d with
  | zero =>
    intro j hj k hk
    obtain ⟨k, rfl⟩ : ∃ m, k = m + 1 := ⟨k - 1, by omega⟩
    simp only [impl_StripeBytes.l1]
    rw [if_neg (by omega), take_all l j (by omega)]
  | succ d ih =>
    intro j hj k hk
    obtain ⟨k, rfl⟩ : ∃ m, k = m + 1 := ⟨k - 1, by omega⟩
    have hw0 : 0 < w := by omega
    have hm : j % w < w := Nat.mod_lt _ hw0
    have ht : Int.tmod (j : Int) (w : Int) = ((j % w : Nat) : Int) := by rw [Int.tmod_eq_emod_of_nonneg (by omega)]; omega
    have hc := colw_le w (j % w) (l.take j)
    rw [List.length_take] at hc
    simp only [impl_StripeBytes.l1]
    rw [ht, if_pos (by omega), if_pos (by omega), if_pos (by omega), if_neg (by omega), if_pos (by omega), if_pos (by rw [stripe_length]; omega), stripe_rd _ _ _ hm, if_pos (by rw [List.length_cons]; omega), rd_lt l j (by omega), toNat_nat, stripe_step l w j hw0 (by omega), wrap_succ j (by omega)]
    exact ih (j + 1) (by omega) k (by omega)
theorem colw_skip (w i : Nat) (hw : w = 1 ∨ w = 2 ∨ w = 4) (l : List Int) (q : Nat) (hq : q % w = i) (h : q < l.length) : colw w i (l.take (q + w)) = colw w i (l.take q) ++ [l[q]] := by
  have key : ∀ t, t < w → colw w i (l.take (q + 1 + t)) = colw w i (l.take (q + 1)) := by
    intro t
    induction t with
    | zero => intro _; rfl
    | succ t ih =>
      intro ht
      rw [← ih (by omega)]
      by_cases hl : q + 1 + t < l.length
      · rw [show q + 1 + (t + 1) = (q + 1 + t) + 1 by omega, colw_take w i l _ hl, if_neg (by rcases hw with rfl | rfl | rfl <;> omega), List.append_nil]
      · rw [take_all l _ (by omega), take_all l (q + 1 + t) (by omega)]
  have h1 := key (w - 1) (by omega)
  rw [show q + 1 + (w - 1) = q + w by omega] at h1
  rw [h1, colw_take w i l q h, if_pos hq]
theorem colw_none (w i : Nat) (l : List Int) (hi : i < w) : colw w i (l.take i) = [] := by
  have key : ∀ t, t ≤ i → colw w i (l.take t) = [] := by
    intro t
    induction t with
    | zero => intro _; rfl
    | succ t ih =>
      intro ht
      by_cases hl : t < l.length
      · rw [colw_take w i l t hl, ih (by omega), if_neg (by rw [Nat.mod_eq_of_lt (by omega)]; omega)]; rfl
      · rw [take_all l _ (by omega), ← take_all l t (by omega)]; exact ih (by omega)
  exact key i (Nat.le_refl _)
theorem sCol (l : List Int) (hl : l.length ≤ 1048576) (w : Nat) (hw : w = 1 ∨ w = 2 ∨ w = 4) (i : Nat) (hi : i < w) (x5 : List (List Int)) (hx : x5.length ≤ 4) (R : List (List Int)) (B : Nat) (H : ∀ k, B < k → spec_StripeBytes.l0 k l (w : Int) (x5 ++ [256 :: colw w i l]) ((i + 1 : Nat) : Int) = some R) (d : Nat) :
    ∀ q : Nat, q % w = i → q ≤ l.length + 4 → l.length ≤ q + d → ∀ k, B + d + 1 < k → spec_StripeBytes.l1 k l (w : Int) x5 (i : Int) (256 :: colw w i (l.take q)) (q : Int) = some R := by
  induction d with
  | zero =>
    intro q hq hq2 hd k hk
    obtain ⟨k, rfl⟩ : ∃ m, k = m + 1 := ⟨k - 1, by omega⟩
    simp only [spec_StripeBytes.l1]
    rw [if_neg (by omega), if_pos (by omega), take_all l q (by omega), wrap_succ i (by omega)]
    exact H k (by omega)
  | succ d ih =>
    intro q hq hq2 hd k hk
    obtain ⟨k, rfl⟩ : ∃ m, k = m + 1 := ⟨k - 1, by omega⟩
    simp only [spec_StripeBytes.l1]
    by_cases h : q < l.length
    · have hc := colw_le w i (l.take q)
      rw [List.length_take] at hc
      rw [if_pos (by omega), if_pos (by omega), if_pos (by rw [List.length_cons]; omega), rd_lt l q h, wrap_id _ (by omega), List.cons_append, ← colw_skip w i hw l q hq h, show (q : Int) + (w : Int) = ((q + w : Nat) : Int) by omega]
      exact ih (q + w) (by rcases hw with rfl | rfl | rfl <;> omega) (by omega) (by omega) k (by omega)
    · rw [if_neg (by omega), if_pos (by omega), take_all l q (by omega), wrap_succ i (by omega)]
      exact H k (by omega)
theorem stripe_take (l : List Int) (w i : Nat) (hi : i < w) : (stripeL l w).take i ++ [256 :: colw w i l] = (stripeL l w).take (i + 1) := by
  rw [take_snoc _ i (by rw [stripe_length]; exact hi), stripe_get]
theorem sRows (l : List Int) (hl : l.length ≤ 1048576) (w : Nat) (hw : w = 1 ∨ w = 2 ∨ w = 4) (d : Nat) : ∀ i : Nat, i + d = w → ∀ k, (d + 1) * (l.length + 10) < k → spec_StripeBytes.l0 k l (w : Int) ((stripeL l w).take i) (i : Int) = some (stripeL l w) := by
  induction d with
  | zero =>
    intro i hi k hk
    obtain ⟨k, rfl⟩ : ∃ m, k = m + 1 := ⟨k - 1, by omega⟩
    simp only [spec_StripeBytes.l0]
    rw [if_neg (by omega), take_all _ i (by rw [stripe_length]; omega)]
  | succ d ih =>
    intro i hi k hk
    obtain ⟨k, rfl⟩ : ∃ m, k = m + 1 := ⟨k - 1, by omega⟩
    have hb : (d + 1 + 1) * (l.length + 10) = (d + 1) * (l.length + 10) + (l.length + 10) := Nat.succ_mul _ _
    simp only [spec_StripeBytes.l0]
    rw [if_pos (by omega)]
    have h := sCol l hl w hw i (by omega) ((stripeL l w).take i) (by rw [List.length_take, stripe_length]; omega) (stripeL l w) ((d + 1) * (l.length + 10)) (fun k' hk' => by
      rw [stripe_take l w i (by omega)]
      exact ih (i + 1) (by omega) k' hk') l.length i (Nat.mod_eq_of_lt (by omega)) (by omega) (by omega) k (by omega)
    rw [colw_none w i l (by omega)] at h
    exact h
/-- What both make of bytes and a width. -/
def stripeR (l : List Int) (a : Int) : List (List Int) := if bytesB l = true ∧ wdB a = true then stripeL l a.toNat else []
theorem sStripe_ev (l : List Int) (hl : l.length ≤ 1048576) (a : Int) (k : Nat) (hk : 6291500 < k) : spec_StripeBytes.f k l a = some (stripeR l a) := by
  obtain ⟨k, rfl⟩ : ∃ m, k = m + 1 := ⟨k - 1, by omega⟩
  unfold spec_StripeBytes.f stripeR
  simp only [Option.bind_some]
  rw [sAreBytes_ev l hl _ (by omega)]
  simp only [Option.bind_some]
  by_cases h1 : bytesB l = true
  · rw [if_pos h1, sIsWidth_eq]
    simp only [Option.bind_some, spec_StripeBytes.j0]
    by_cases h2 : wdB a = true
    · obtain ⟨w, rfl, hw⟩ := wdB_nat a h2
      rw [h2, if_neg (by simp), if_pos ⟨h1, rfl⟩, toNat_nat]
      exact sRows l hl w hw w 0 (by omega) k (by rcases hw with rfl | rfl | rfl <;> omega)
    · rw [Bool.eq_false_iff.mpr h2, if_pos (show (!false) = true from rfl), if_neg (by simp)]
  · rw [if_neg h1, if_neg (by simp [h1])]
    simp [spec_StripeBytes.j0]
theorem iStripe_ev (l : List Int) (hl : l.length ≤ 1048576) (a : Int) (k : Nat) (hk : 1048650 < k) : impl_StripeBytes.f k l a = some (stripeR l a) := by
  obtain ⟨k, rfl⟩ : ∃ m, k = m + 1 := ⟨k - 1, by omega⟩
  unfold impl_StripeBytes.f stripeR
  rw [iAreBytes_ev l _ (by omega)]
  simp only [Option.bind_some]
  by_cases h1 : bytesB l = true
  · rw [if_pos h1, iIsWidth_eq]
    simp only [Option.bind_some, impl_StripeBytes.j0]
    by_cases h2 : wdB a = true
    · obtain ⟨w, rfl, hw⟩ := wdB_nat a h2
      rw [h2, if_neg (by simp), if_pos ⟨h1, rfl⟩, toNat_nat]
      obtain ⟨m, rfl⟩ : ∃ m, k = m + w + 1 := ⟨k - w - 1, by omega⟩
      have h := iRows l w (by omega) w 0 (by omega) m
      have h' := iCols l hl w hw l.length 0 (by omega) m (by omega)
      rw [List.take_zero, stripe_nil] at h'
      exact h.trans h'
    · rw [Bool.eq_false_iff.mpr h2, if_pos (show (!false) = true from rfl), if_neg (by simp)]
  · rw [if_neg h1, if_neg (by simp [h1])]
    simp [impl_StripeBytes.j0]
theorem stripeR_len (l : List Int) (a : Int) : (stripeR l a).length ≤ 4 ∧ ∀ x ∈ stripeR l a, x.length ≤ 1 + l.length := by
  unfold stripeR
  split
  · rename_i h
    obtain ⟨w, rfl, hw⟩ := wdB_nat a h.2
    rw [toNat_nat]
    refine ⟨by rw [stripe_length]; omega, fun x hx => ?_⟩
    unfold stripeL at hx
    obtain ⟨i, _, rfl⟩ := List.mem_map.1 hx
    have := colw_le w i l
    rw [List.length_cons]; omega
  · exact ⟨by simp, by simp⟩
theorem FnExactStripeBytes : laws_FnExactStripeBytes.Pure := by
  intro l a ⟨hl, _⟩ _
  refine ⟨6291600, ?_⟩
  unfold laws_FnExactStripeBytes.f
  by_cases h : (1048576 : Int) < (l.length : Int)
  · rw [if_pos h]
  have hn : l.length ≤ 1048576 := by omega
  obtain ⟨r1, r2⟩ := stripeR_len l a
  have hE : ∀ x ∈ stripeR l a, SmallE x := fun x hx => by
    have h2 : x.length ≤ 41 := by
      have := r2 x hx
      by_cases hb : bytesB l = true
      · have := bytesB_len hb; omega
      · have : stripeR l a = [] := by unfold stripeR; rw [if_neg (by simp [hb])]
        rw [this] at hx; simp at hx
    unfold SmallE; omega
  have ht := totL_le 1048576 (stripeR l a) hE
  have hm := markSS_ev (stripeR l a) 1 (by omega) (by omega) (by omega) hE 6291600 (by omega)
  have hh := heldSS_ev (stripeR l a) 1 (by omega) (by omega) (by omega) hE 6291600 (by omega)
  rw [if_neg h]
  simp only [toIntS_ev l hn 6291600 (by omega), Option.bind_some, sStripe_ev l hn a 6291600 (by omega), iStripe_ev l hn a 6291600 (by omega), eqIntSS_ev (stripeR l a) (stripeR l a) (by omega) hE 6291600 (by omega), eqIntS_ev l l (by omega) 6291600 (by omega), markIntS_ev l 1 hn (by omega) (by omega) 6291600 (by omega), hm, hh, decide_true, if_true]
  rw [if_pos (by omega), if_pos (by omega), if_pos (by omega)]

end Go.Proofs.Ytoafbbopicbofaa.Pure
