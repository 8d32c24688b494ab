/- The statement FnExactSkewLanes over lists of lists of whole numbers: the program and the reference delay lanes alike, neither changes what it is given, and the program's answer shares no memory with its arguments or with the answer of another call. Lists that are longer than the law's own bound are let by, as the law itself does. -/
import Derived.Test.YtoafbbopicbofaaPFnExactSkewLanesx4
import Derived.Test.YtoafbbopicbofaaXLists
namespace Go.Proofs.Ytoafbbopicbofaa.Pure
set_option linter.unusedVariables false
set_option linter.unusedSimpArgs false
open Go.RowKit Go.Proofs.Ytoafbbopicbofaa.PFnExactSkewLanes Go.Proofs.YtoafbbopicbofaaW.PrintWords Go.Proofs.YtoafbbopicbofaaW.PrintLast Go.Proofs.YtoafbbopicbofaaW.PrintMore Go.Proofs.YtoafbbopicbofaaX

theorem within_eq (a l m : Int) : impl_within.f a l m = some (decide (l ≤ a ∧ a ≤ m)) := by
  unfold impl_within.f
  by_cases h : a ≥ l
  · have h' : l ≤ a := h
    rw [if_pos h]; simp [h']
  · have h' : ¬ l ≤ a := h
    rw [if_neg h]; simp [h']
theorem l01In_eq (a l m : Int) : spec_l01In.f a l m = some (decide (l ≤ a ∧ a ≤ m)) := by
  unfold spec_l01In.f
  by_cases h : a ≥ l
  · have h' : l ≤ a := h
    rw [if_pos h]; simp [h']
  · have h' : ¬ l ≤ a := h
    rw [if_neg h]; simp [h']
theorem any_not {α : Type} (l : List α) (p : α → Bool) : (!l.any fun x => !p x) = l.all p := by
  induction l with
  | nil => rfl
  | cons a l ih => rw [List.any_cons, List.all_cons, Bool.not_or, ih, Bool.not_not]
/-- A row that is no longer than the law's bound. -/
def SmallE (x : List Int) : Prop := x.length ≤ 1048576
def FitE (x : List Int) : Prop := x.length ≤ 9223372036854775807
theorem rdL_lt (l : List (List Int)) (i : Nat) (h : i < l.length) : rd_L1 l (i : Int) = l[i] := by
  show l.getD i [] = l[i]
  simp [h]
theorem szIntS_eq (l : List Int) (left : Int) (h0 : 0 ≤ left) (h1 : left ≤ 1048576) (hl : l.length ≤ 9223372036854775807) : laws_szIntS.f l left = some (if left < l.length then -1 else left - l.length) := by
  unfold laws_szIntS.f
  rw [wrap_id _ (by omega)]
  by_cases h : left < l.length
  · rw [if_pos (by omega), if_pos h]
  · rw [if_neg (by omega), if_neg h]
theorem szE (x : List Int) (left : Int) (h0 : 0 ≤ left) (h1 : left ≤ 1048576) (hw : FitE x) : ∃ r, laws_szIntS.f x left = some r ∧ r ≤ left ∧ (0 ≤ r → SmallE x) := by
  unfold FitE at hw
  refine ⟨_, szIntS_eq x left h0 h1 hw, ?_, fun h => ?_⟩
  · split <;> omega
  · unfold SmallE
    split at h <;> omega
theorem szIntSS_l0 (l : List (List Int)) (hl : l.length ≤ 1048576) (hw : ∀ x ∈ l, FitE x) (d : Nat) : ∀ (i : Nat) (left : Int), 0 ≤ left → left ≤ 1048576 → i + d = l.length → ∃ r, (∀ k, d < k → laws_szIntSS.l0 k l left (i : Int) = some r) ∧ r ≤ left ∧ (0 ≤ r → ∀ x ∈ l.drop i, SmallE x) := by
  induction d with
  | zero =>
    intro i left h0 h1 hi
    refine ⟨left, fun k hk => ?_, Int.le_refl _, fun _ x hx => ?_⟩
    · obtain ⟨k, rfl⟩ : ∃ m, k = m + 1 := ⟨k - 1, by omega⟩
      simp only [laws_szIntSS.l0]
      rw [if_neg (show ¬ (i : Int) < (l.length : Int) by omega)]
    · rw [drop_all l i (by omega)] at hx; cases hx
  | succ d ih =>
    intro i left h0 h1 hi
    have hlt : i < l.length := by omega
    obtain ⟨q, e, hq1, hq2⟩ := szE l[i] left h0 h1 (hw _ (List.getElem_mem hlt))
    by_cases hq : q < 0
    · refine ⟨-1, fun k hk => ?_, by omega, fun h => by omega⟩
      obtain ⟨k, rfl⟩ : ∃ m, k = m + 1 := ⟨k - 1, by omega⟩
      simp only [laws_szIntSS.l0]
      rw [if_pos (show (i : Int) < (l.length : Int) by omega), if_pos (show (0 : Int) ≤ (i : Int) by omega), rdL_lt l i hlt, e]
      simp only [Option.bind_some]
      rw [if_pos hq]
    · obtain ⟨r, hr1, hr2, hr3⟩ := ih (i + 1) q (by omega) (by omega) (by omega)
      refine ⟨r, fun k hk => ?_, by omega, fun h x hx => ?_⟩
      · obtain ⟨k, rfl⟩ : ∃ m, k = m + 1 := ⟨k - 1, by omega⟩
        simp only [laws_szIntSS.l0]
        rw [if_pos (show (i : Int) < (l.length : Int) by omega), if_pos (show (0 : Int) ≤ (i : Int) by omega), rdL_lt l i hlt, e]
        simp only [Option.bind_some]
        rw [if_neg hq, wrap_succ i (by omega)]
        exact hr1 k (by omega)
      · rw [drop_cons l i hlt] at hx
        rcases List.mem_cons.1 hx with rfl | hx
        · exact hq2 (by omega)
        · exact hr3 h x hx
theorem szIntSS_ev (l : List (List Int)) (left : Int) (h0 : 0 ≤ left) (h1 : left ≤ 1048576) (hm : l.length ≤ 9223372036854775807) (hw : ∀ x ∈ l, FitE x) : ∃ r, (∀ k, 1048577 ≤ k → laws_szIntSS.f k l left = some r) ∧ r ≤ left ∧ (0 ≤ r → l.length ≤ 1048576 ∧ ∀ x ∈ l, SmallE x) := by
  unfold laws_szIntSS.f
  rw [wrap_id _ (by omega)]
  by_cases h : left - (l.length : Int) < 0
  · refine ⟨-1, fun k hk => ?_, by omega, fun h => by omega⟩
    rw [if_pos h]
  · obtain ⟨r, hr1, hr2, hr3⟩ := szIntSS_l0 l (by omega) hw l.length 0 (left - (l.length : Int)) (by omega) (by omega) (by omega)
    refine ⟨r, fun k hk => ?_, by omega, fun h => ⟨by omega, fun x hx => hr3 h x (by simpa using hx)⟩⟩
    rw [if_neg h]
    exact hr1 k (by omega)
theorem toIntS_l0 (l : List Int) (hb : l.length ≤ 1048576) (d : Nat) : ∀ (x : List Int) (i : Nat), x.length = l.length → x.take i = l.take i → i + d = l.length → ∀ k, d < k → laws_toIntS.l0 k l x (i : Int) = some l := by
  induction d with
  | zero =>
    intro x i hx ht hi k hk
    obtain ⟨k, rfl⟩ : ∃ m, k = m + 1 := ⟨k - 1, by omega⟩
    simp only [laws_toIntS.l0]
    rw [if_neg (show ¬ (i : Int) < (l.length : Int) by omega), fill_end x l i hx (by omega) ht]
  | succ d ih =>
    intro x i hx ht hi k hk
    obtain ⟨k, rfl⟩ : ∃ m, k = m + 1 := ⟨k - 1, by omega⟩
    simp only [laws_toIntS.l0]
    rw [if_pos (show (i : Int) < (l.length : Int) by omega), if_pos (show (0 : Int) ≤ (i : Int) by omega), if_pos (show (i : Int) < (x.length : Int) by omega), wrap_succ i (by omega), toNat_nat, rd_lt l i (by omega)]
    exact ih _ (i + 1) (by simp [hx]) (fill_step x l i _ (by omega) (by omega) ht rfl) (by omega) k (by omega)
theorem toIntS_ev (l : List Int) (hb : l.length ≤ 1048576) : ∀ k, l.length < k → laws_toIntS.f k l = some l := by
  intro k hk
  unfold laws_toIntS.f
  rw [if_pos (by omega), if_pos (by omega)]
  exact toIntS_l0 l hb l.length _ 0 (by simp) (by simp) (by omega) k hk
theorem toIntSS_l0 (l : List (List Int)) (hb : l.length ≤ 1048576) (he : ∀ x ∈ l, SmallE x) (d : Nat) : ∀ (x : List (List Int)) (i : Nat), x.length = l.length → x.take i = l.take i → i + d = l.length → ∀ k, 1048577 + d < k → laws_toIntSS.l0 k l x (i : Int) = some l := by
  induction d with
  | zero =>
    intro x i hx ht hi k hk
    obtain ⟨k, rfl⟩ : ∃ m, k = m + 1 := ⟨k - 1, by omega⟩
    simp only [laws_toIntSS.l0]
    rw [if_neg (show ¬ (i : Int) < (l.length : Int) by omega), fill_end x l i hx (by omega) ht]
  | succ d ih =>
    intro x i hx ht hi k hk
    obtain ⟨k, rfl⟩ : ∃ m, k = m + 1 := ⟨k - 1, by omega⟩
    have hlt : i < l.length := by omega
    simp only [laws_toIntSS.l0]
    rw [if_pos (show (i : Int) < (l.length : Int) by omega), if_pos (show (0 : Int) ≤ (i : Int) by omega), rdL_lt l i hlt, toIntS_ev l[i] (he _ (List.getElem_mem hlt)) k (by have := (he _ (List.getElem_mem hlt)); unfold SmallE at this; omega)]
    simp only [Option.bind_some]
    rw [if_pos (show (i : Int) < (x.length : Int) by omega), wrap_succ i (by omega), toNat_nat]
    exact ih _ (i + 1) (by simp [hx]) (fill_step x l i _ (by omega) (by omega) ht rfl) (by omega) k (by omega)
theorem toIntSS_ev (l : List (List Int)) (hb : l.length ≤ 1048576) (he : ∀ x ∈ l, SmallE x) : ∀ k, 1048577 + l.length < k → laws_toIntSS.f k l = some l := by
  intro k hk
  unfold laws_toIntSS.f
  rw [if_pos (by omega), if_pos (by omega)]
  exact toIntSS_l0 l hb he l.length _ 0 (by simp) (by simp) (by omega) k hk
theorem eqIntS_l0 (a b : List Int) (hl : a.length = b.length) (hb : a.length < 9223372036854775807) (d : Nat) : ∀ (i : Nat), i + d = a.length → ∀ k, d < k → laws_eqIntS.l0 k a b (i : Int) = some (decide (a.drop i = b.drop i)) := by
  induction d with
  | zero =>
    intro i hi k hk
    obtain ⟨k, rfl⟩ : ∃ m, k = m + 1 := ⟨k - 1, by omega⟩
    simp only [laws_eqIntS.l0]
    rw [if_neg (show ¬ (i : Int) < (a.length : Int) by omega), drop_all a i (by omega), drop_all b i (by omega)]
    simp
  | succ d ih =>
    intro i hi k hk
    obtain ⟨k, rfl⟩ : ∃ m, k = m + 1 := ⟨k - 1, by omega⟩
    simp only [laws_eqIntS.l0]
    rw [if_pos (show (i : Int) < (a.length : Int) by omega), if_pos (show (0 : Int) ≤ (i : Int) by omega), if_pos (show (i : Int) < (b.length : Int) by omega)]
    by_cases he : rd a (i : Int) = rd b (i : Int)
    · rw [if_pos he, wrap_succ i (by omega), ih (i + 1) (by omega) k (by omega)]
      congr 1
      rw [decide_eq_decide, drop_eq_iff a b i (by omega) (by omega)]
      exact ⟨fun h => ⟨he, h⟩, fun h => h.2⟩
    · rw [if_neg he]
      congr 1
      symm
      rw [decide_eq_false_iff_not, drop_eq_iff a b i (by omega) (by omega)]
      exact fun h => he h.1
theorem eqIntS_ev (a b : List Int) (hb : a.length < 9223372036854775807) : ∀ k, a.length < k → laws_eqIntS.f k a b = some (decide (a = b)) := by
  intro k hk
  unfold laws_eqIntS.f
  by_cases hl : a.length = b.length
  · rw [if_pos (by omega)]
    exact eqIntS_l0 a b hl hb a.length 0 (by omega) k hk
  · rw [if_neg (by omega), decide_eq_false (fun h => hl (by rw [h]))]
def SmallG2 (x : List Int) : Prop := x.length ≤ 1048579
theorem eqIntSS_l0 (a b : List (List Int)) (hl : a.length = b.length) (hb : a.length ≤ 1048576) (he : ∀ x ∈ a, SmallG2 x) (d : Nat) : ∀ (i : Nat), i + d = a.length → ∀ k, 1048580 + d < k → laws_eqIntSS.l0 k a b (i : Int) = some (decide (a.drop i = b.drop i)) := by
  induction d with
  | zero =>
    intro i hi k hk
    obtain ⟨k, rfl⟩ : ∃ m, k = m + 1 := ⟨k - 1, by omega⟩
    simp only [laws_eqIntSS.l0]
    rw [if_neg (show ¬ (i : Int) < (a.length : Int) by omega), drop_all a i (by omega), drop_all b i (by omega)]
    simp
  | succ d ih =>
    intro i hi k hk
    obtain ⟨k, rfl⟩ : ∃ m, k = m + 1 := ⟨k - 1, by omega⟩
    have h1 : i < a.length := by omega
    have h2 : i < b.length := by omega
    simp only [laws_eqIntSS.l0]
    rw [if_pos (show (i : Int) < (a.length : Int) by omega), if_pos (show (0 : Int) ≤ (i : Int) by omega), if_pos (show (i : Int) < (b.length : Int) by omega), rdL_lt a i h1, rdL_lt b i h2, eqIntS_ev a[i] b[i] (by have := (he _ (List.getElem_mem h1)); unfold SmallG2 at this; omega) k (by have := (he _ (List.getElem_mem h1)); unfold SmallG2 at this; omega)]
    simp only [Option.bind_some]
    by_cases hq : a[i] = b[i]
    · rw [if_pos (decide_eq_true hq), wrap_succ i (by omega), ih (i + 1) (by omega) k (by omega)]
      congr 1
      rw [decide_eq_decide, drop_cons a i h1, drop_cons b i h2, List.cons.injEq]
      exact ⟨fun h => ⟨hq, h⟩, fun h => h.2⟩
    · rw [if_neg (by simp [hq])]
      congr 1
      symm
      rw [decide_eq_false_iff_not, drop_cons a i h1, drop_cons b i h2, List.cons.injEq]
      exact fun h => hq h.1
theorem eqIntSS_ev (a b : List (List Int)) (hb : a.length ≤ 1048576) (he : ∀ x ∈ a, SmallG2 x) : ∀ k, 1048580 + a.length < k → laws_eqIntSS.f k a b = some (decide (a = b)) := by
  intro k hk
  unfold laws_eqIntSS.f
  by_cases hl : a.length = b.length
  · rw [if_pos (by omega)]
    exact eqIntSS_l0 a b hl hb he a.length 0 (by omega) k hk
  · rw [if_neg (by omega), decide_eq_false (fun h => hl (by rw [h]))]
/-- The numbers s, s + 1, .. -/
def markL (n : Nat) (s : Int) : List Int := (List.range n).map fun (i : Nat) => s + (i : Int)
theorem markL_length (n : Nat) (s : Int) : (markL n s).length = n := by simp [markL]
theorem markL_get (n : Nat) (s : Int) (i : Nat) (h : i < (markL n s).length) : (markL n s)[i] = s + (i : Int) := by simp [markL]
theorem markIntS_l0 (n : Nat) (s : Int) (hn : n ≤ 1048579) (h0 : 0 ≤ s) (h1 : s ≤ 4000000000000000000) (d : Nat) : ∀ (x : List Int) (i : Nat), x.length = n → x.take i = (markL n s).take i → i + d = n → ∀ k, d < k → laws_markIntS.l0 k x (s + (i : Int)) (i : Int) = some (s + (n : Int), markL n s) := by
  induction d with
  | zero =>
    intro x i hx ht hi k hk
    obtain ⟨k, rfl⟩ : ∃ m, k = m + 1 := ⟨k - 1, by omega⟩
    simp only [laws_markIntS.l0]
    have hlen := markL_length n s
    rw [if_neg (show ¬ (i : Int) < (x.length : Int) by omega), fill_end x (markL n s) i (by omega) (by omega) ht, show i = n by omega]
  | succ d ih =>
    intro x i hx ht hi k hk
    obtain ⟨k, rfl⟩ : ∃ m, k = m + 1 := ⟨k - 1, by omega⟩
    have hlen := markL_length n s
    simp only [laws_markIntS.l0]
    rw [if_pos (show (i : Int) < (x.length : Int) by omega), if_pos (show (0 : Int) ≤ (i : Int) by omega), wrap_succ i (by omega), toNat_nat, wrap_id (s + (i : Int) + 1) (by omega)]
    have e : s + (i : Int) + 1 = s + ((i + 1 : Nat) : Int) := by omega
    rw [e]
    exact ih _ (i + 1) (by simp [hx]) (fill_step x (markL n s) i _ (by omega) (by omega) ht (markL_get n s i (by omega)).symm) (by omega) k (by omega)
theorem markIntS_ev (l : List Int) (s : Int) (hn : l.length ≤ 1048579) (h0 : 0 ≤ s) (h1 : s ≤ 4000000000000000000) (k : Nat) (hk : l.length < k) : laws_markIntS.f k l s = some (s + (l.length : Int), markL l.length s) := by
  unfold laws_markIntS.f
  have h := markIntS_l0 l.length s hn h0 h1 l.length l 0 rfl (by simp) (by omega) k hk
  simpa using h
theorem heldIntS_l0 (n : Nat) (s : Int) (hn : n ≤ 1048579) (h0 : 0 ≤ s) (h1 : s ≤ 4000000000000000000) (d : Nat) : ∀ (i : Nat), i + d = n → ∀ k, d < k → laws_heldIntS.l0 k (markL n s) (s + (i : Int)) (i : Int) = some (s + (n : Int)) := by
  have hlen := markL_length n s
  induction d with
  | zero =>
    intro i hi k hk
    obtain ⟨k, rfl⟩ : ∃ m, k = m + 1 := ⟨k - 1, by omega⟩
    simp only [laws_heldIntS.l0]
    rw [if_neg (show ¬ (i : Int) < ((markL n s).length : Int) by omega), show i = n by omega]
  | succ d ih =>
    intro i hi k hk
    obtain ⟨k, rfl⟩ : ∃ m, k = m + 1 := ⟨k - 1, by omega⟩
    simp only [laws_heldIntS.l0]
    rw [if_pos (show (i : Int) < ((markL n s).length : Int) by omega), if_pos (show (0 : Int) ≤ (i : Int) by omega), rd_lt _ i (by omega), markL_get n s i (by omega), if_pos rfl, wrap_succ i (by omega), wrap_id (s + (i : Int) + 1) (by omega)]
    have e : s + (i : Int) + 1 = s + ((i + 1 : Nat) : Int) := by omega
    rw [e]
    exact ih (i + 1) (by omega) k (by omega)
theorem heldIntS_ev (n : Nat) (s : Int) (hn : n ≤ 1048579) (h0 : 0 ≤ s) (h1 : s ≤ 4000000000000000000) (k : Nat) (hk : n < k) : laws_heldIntS.f k (markL n s) s = some (s + (n : Int)) := by
  unfold laws_heldIntS.f
  have h := heldIntS_l0 n s hn h0 h1 n 0 (by omega) k hk
  simpa using h
/-- All rows' lengths. -/
def totL : List (List Int) → Nat
  | [] => 0
  | x :: l => x.length + totL l
def markLL : List (List Int) → Int → List (List Int)
  | [], _ => []
  | x :: l, s => markL x.length s :: markLL l (s + (x.length : Int))
theorem rdL_mid (done : List (List Int)) (x : List Int) (rest : List (List Int)) : rd_L1 (done ++ x :: rest) (done.length : Int) = x := by
  unfold rd_L1
  rw [toNat_nat]
  simp
theorem set_mid {α : Type} (done : List α) (x y : α) (rest : List α) : (done ++ x :: rest).set done.length y = (done ++ [y]) ++ rest := by
  rw [List.set_append_right _ _ (Nat.le_refl _)]
  simp
theorem markSS_l0 (rest : List (List Int)) : ∀ (done : List (List Int)) (s : Int), 0 ≤ s → s + (totL rest : Int) ≤ 4000000000000000000 → done.length + rest.length ≤ 1048576 → (∀ x ∈ rest, x.length ≤ 1048579) → ∀ k, 1048580 + rest.length < k → laws_markIntSS.l0 k (done ++ rest) s (done.length : Int) = some (s + (totL rest : Int), done ++ markLL rest s) := by
  induction rest with
  | nil =>
    intro done s h0 h1 hl hs k hk
    obtain ⟨k, rfl⟩ : ∃ m, k = m + 1 := ⟨k - 1, by omega⟩
    simp only [laws_markIntSS.l0]
    rw [if_neg (by rw [List.append_nil]; omega)]
    simp [totL, markLL]
  | cons x rest ih =>
    intro done s h0 h1 hl hs k hk
    obtain ⟨k, rfl⟩ : ∃ m, k = m + 1 := ⟨k - 1, by omega⟩
    have hx := hs x (by simp)
    simp only [List.length_cons] at hk hl
    have ht : totL (x :: rest) = x.length + totL rest := rfl
    simp only [laws_markIntSS.l0]
    rw [if_pos (by rw [List.length_append, List.length_cons]; omega), if_pos (by omega), rdL_mid, markIntS_ev x s hx h0 (by omega) k (by omega)]
    simp only [Option.bind_some]
    rw [wrap_succ _ (by omega), toNat_nat, set_mid]
    have h := ih (done ++ [markL x.length s]) (s + (x.length : Int)) (by omega) (by omega) (by rw [List.length_append, List.length_singleton]; omega) (fun y hy => hs y (by simp [hy])) k (by omega)
    rw [List.length_append, List.length_singleton] at h
    rw [h, ht]
    simp only [markLL, List.append_assoc, List.singleton_append]
    congr 2
    omega
theorem markSS_ev (l : List (List Int)) (s : Int) (h0 : 0 ≤ s) (h1 : s + (totL l : Int) ≤ 4000000000000000000) (hl : l.length ≤ 1048576) (hs : ∀ x ∈ l, x.length ≤ 1048579) (k : Nat) (hk : 2097165 < k) : laws_markIntSS.f k l s = some (s + (totL l : Int), markLL l s) := by
  unfold laws_markIntSS.f
  exact markSS_l0 l [] s h0 h1 (by simpa using hl) hs k (by omega)
theorem heldSS_l0 (rest : List (List Int)) : ∀ (done : List (List Int)) (s : Int), 0 ≤ s → s + (totL rest : Int) ≤ 4000000000000000000 → done.length + rest.length ≤ 1048576 → (∀ x ∈ rest, x.length ≤ 1048579) → ∀ k, 1048580 + rest.length < k → laws_heldIntSS.l0 k (done ++ markLL rest s) s (done.length : Int) = some (s + (totL rest : Int)) := by
  induction rest with
  | nil =>
    intro done s h0 h1 hl hs k hk
    obtain ⟨k, rfl⟩ : ∃ m, k = m + 1 := ⟨k - 1, by omega⟩
    simp only [laws_heldIntSS.l0]
    rw [if_neg (by simp only [markLL, List.append_nil]; omega)]
    simp [totL]
  | cons x rest ih =>
    intro done s h0 h1 hl hs k hk
    obtain ⟨k, rfl⟩ : ∃ m, k = m + 1 := ⟨k - 1, by omega⟩
    have hx := hs x (by simp)
    simp only [List.length_cons] at hk hl
    have ht : totL (x :: rest) = x.length + totL rest := rfl
    show laws_heldIntSS.l0 (k + 1) (done ++ markL x.length s :: markLL rest (s + (x.length : Int))) s (done.length : Int) = _
    simp only [laws_heldIntSS.l0]
    rw [if_pos (by rw [List.length_append, List.length_cons]; omega), if_pos (by omega), rdL_mid, heldIntS_ev x.length s hx h0 (by omega) k (by omega)]
    simp only [Option.bind_some]
    rw [if_neg (by omega), wrap_succ _ (by omega)]
    have h := ih (done ++ [markL x.length s]) (s + (x.length : Int)) (by omega) (by omega) (by rw [List.length_append, List.length_singleton]; omega) (fun y hy => hs y (by simp [hy])) k (by omega)
    rw [List.length_append, List.length_singleton, List.append_assoc, List.singleton_append] at h
    rw [h, ht]
    congr 1
    omega
theorem heldSS_ev (l : List (List Int)) (s : Int) (h0 : 0 ≤ s) (h1 : s + (totL l : Int) ≤ 4000000000000000000) (hl : l.length ≤ 1048576) (hs : ∀ x ∈ l, x.length ≤ 1048579) (k : Nat) (hk : 2097165 < k) : laws_heldIntSS.f k (markLL l s) s = some (s + (totL l : Int)) := by
  unfold laws_heldIntSS.f
  exact heldSS_l0 l [] s h0 h1 (by simpa using hl) hs k (by omega)
theorem totL_le (m : Nat) (l : List (List Int)) (h : ∀ x ∈ l, x.length ≤ m) : totL l ≤ l.length * m := by
  induction l with
  | nil => simp [totL]
  | cons x l ih =>
    have h1 := h x (by simp)
    have h2 := ih (fun y hy => h y (by simp [hy]))
    simp only [totL, List.length_cons, Nat.succ_mul]
    omega
def skB (x : Int) : Bool := decide (0 ≤ x ∧ x ≤ 3)
theorem notSk_eq (x : Int) : impl_SkewLanes_1.f x = some (!skB x) := by
  unfold impl_SkewLanes_1.f
  rw [within_eq]
  rfl
theorem cSkew_l0 (l : List (Int)) (hl : l.length ≤ 1048576) (d : Nat) : ∀ i : Nat, i + d = l.length → ∀ k, 0 + d < k → ∃ r, slices_IndexFunc_int_int__impl_SkewLanes_1.l0 k l (l.length : Int) (i : Int) = some r ∧ decide (r ≥ 0) = (l.drop i).any (fun x => !skB x) := by
  induction d with
  | zero =>
    intro i hi k hk
    obtain ⟨k, rfl⟩ : ∃ m, k = m + 1 := ⟨k - 1, by omega⟩
    refine ⟨-1, ?_, ?_⟩
    · simp only [slices_IndexFunc_int_int__impl_SkewLanes_1.l0]
      rw [if_neg (show ¬ (i : Int) < (l.length : Int) by omega)]
    · rw [drop_all l i (by omega)]; rfl
  | succ d ih =>
    intro i hi k hk
    obtain ⟨k, rfl⟩ : ∃ m, k = m + 1 := ⟨k - 1, by omega⟩
    have hlt : i < l.length := by omega
    simp only [slices_IndexFunc_int_int__impl_SkewLanes_1.l0]
    rw [if_pos (show (i : Int) < (l.length : Int) by omega), if_pos (show (0 : Int) ≤ (i : Int) by omega), if_pos (show (i : Int) < (l.length : Int) by omega), rd_lt l i hlt, notSk_eq l[i]]
    simp only [Option.bind_some]
    by_cases hp : (fun x => !skB x) l[i] = true
    · rw [if_pos hp]
      exact ⟨_, rfl, by rw [any_drop_yes l i hlt _ hp, decide_eq_true (by omega)]⟩
    · rw [if_neg hp, wrap_succ i (by omega)]
      obtain ⟨r, h1, h2⟩ := ih (i + 1) (by omega) k (by omega)
      exact ⟨r, h1, by rw [h2, any_drop_no l i hlt _ hp]⟩
theorem cSkew_ev (l : List (Int)) (hl : l.length ≤ 1048576) (k : Nat) (hk : 0 + l.length < k) : slices_ContainsFunc_int_int__impl_SkewLanes_1.f k l = some (l.any (fun x => !skB x)) := by
  obtain ⟨r, h1, h2⟩ := cSkew_l0 l hl l.length 0 (by omega) k hk
  unfold slices_ContainsFunc_int_int__impl_SkewLanes_1.f slices_IndexFunc_int_int__impl_SkewLanes_1.f
  have c0 : ((0 : Nat) : Int) = 0 := rfl
  rw [c0] at h1
  rw [h1]
  simp only [Option.bind_some]
  rw [h2]; rfl
/-- Lanes, each behind as many zeros as it is late by. -/
def skewL : List (List Int) → List Int → List (List Int)
  | x :: l, n :: s => (List.replicate n.toNat 0 ++ x) :: skewL l s
  | _, _ => []
theorem skewL_length : ∀ (l : List (List Int)) (s : List Int), l.length = s.length → (skewL l s).length = l.length
  | [], _, _ => rfl
  | _ :: l, [], h => by simp at h
  | x :: l, n :: s, h => by simp [skewL, skewL_length l s (by simpa using h)]
theorem skewL_small : ∀ (l : List (List Int)) (s : List Int), (∀ n ∈ s, skB n = true) → (∀ x ∈ l, x.length ≤ 1048576) → ∀ x ∈ skewL l s, x.length ≤ 1048579
  | [], _, _, _, x, hx => by simp [skewL] at hx
  | _ :: l, [], _, _, x, hx => by simp [skewL] at hx
  | y :: l, n :: s, hs, hl, x, hx => by
    simp only [skewL, List.mem_cons] at hx
    rcases hx with rfl | hx
    · have h1 := hs n (by simp)
      have h2 := hl y (by simp)
      unfold skB at h1
      have h1 := of_decide_eq_true h1
      rw [List.length_append, List.length_replicate]
      omega
    · exact skewL_small l s (fun n hn => hs n (by simp [hn])) (fun z hz => hl z (by simp [hz])) x hx
theorem sSkew_l0 (L : List (List Int)) (S : List Int) (hl : L.length = S.length) (hn : L.length ≤ 1048576) (hL : ∀ x ∈ L, x.length ≤ 1048576) (d : Nat) : ∀ (o : List (List Int)) (i : Nat), i + d = L.length → o.length = i → ∀ k, d < k → spec_SkewLanes.l0 k L S o (i : Int) = some (if (S.drop i).all skB = true then o ++ skewL (L.drop i) (S.drop i) else []) := by
  induction d with
  | zero =>
    intro o i hi ho k hk
    obtain ⟨k, rfl⟩ : ∃ m, k = m + 1 := ⟨k - 1, by omega⟩
    simp only [spec_SkewLanes.l0]
    rw [if_neg (by omega), drop_all L i (by omega), drop_all S i (by omega)]
    simp [skewL]
  | succ d ih =>
    intro o i hi ho k hk
    obtain ⟨k, rfl⟩ : ∃ m, k = m + 1 := ⟨k - 1, by omega⟩
    have hLi := hL _ (List.getElem_mem (show i < L.length by omega))
    simp only [spec_SkewLanes.l0]
    rw [if_pos (by omega), if_pos (by omega), if_pos (by omega), rd_lt S i (by omega), l01In_eq]
    simp only [Option.bind_some]
    rw [drop_cons S i (by omega), drop_cons L i (by omega), List.all_cons]
    by_cases h : 0 ≤ S[i] ∧ S[i] ≤ 3
    · rw [if_pos (by simpa using h), if_pos h.1, if_pos (by omega), rdL_lt L i (by omega)]
      simp only [List.length_replicate]
      rw [if_pos (by omega), if_pos (by omega), wrap_succ i (by omega), ih _ (i + 1) (by omega) (by simp [ho]) k (by omega)]
      have hb : skB S[i] = true := decide_eq_true h
      rw [hb, Bool.true_and]
      simp only [skewL, List.append_assoc, List.singleton_append]
    · rw [if_neg (by simpa using h)]
      have hb : skB S[i] = false := decide_eq_false h
      rw [hb, Bool.false_and, if_neg (by simp)]
def skewR (L : List (List Int)) (S : List Int) : List (List Int) := if L.length = S.length ∧ S.all skB = true then skewL L S else []
theorem sSkew_ev (L : List (List Int)) (S : List Int) (hn : L.length ≤ 1048576) (hL : ∀ x ∈ L, x.length ≤ 1048576) (k : Nat) (hk : L.length < k) : spec_SkewLanes.f k L S = some (skewR L S) := by
  unfold spec_SkewLanes.f skewR
  simp only [Option.bind_some]
  by_cases h : L.length = S.length
  · rw [if_pos (by omega)]
    have h1 := sSkew_l0 L S h hn hL L.length [] 0 (by omega) rfl k hk
    rw [List.drop_zero, List.drop_zero, List.nil_append] at h1
    have h2 : ((0 : Nat) : Int) = 0 := rfl
    rw [h2] at h1
    rw [h1]
    by_cases h3 : S.all skB = true
    · rw [if_pos h3, if_pos ⟨h, h3⟩]
    · rw [if_neg h3, if_neg (fun h4 => h3 h4.2)]
  · rw [if_neg (by omega), if_neg (fun h4 => h h4.1)]
theorem iSkew_l0 (L : List (List Int)) (S : List Int) (hl : L.length = S.length) (hn : L.length ≤ 1048576) (hL : ∀ x ∈ L, x.length ≤ 1048576) (hS : ∀ n ∈ S, skB n = true) (d : Nat) : ∀ (o : List (List Int)) (i : Nat), i + d = L.length → o.length = i → ∀ k, d < k → impl_SkewLanes.l0 k S o L (L.length : Int) (i : Int) = some (o ++ skewL (L.drop i) (S.drop i)) := by
  induction d with
  | zero =>
    intro o i hi ho k hk
    obtain ⟨k, rfl⟩ : ∃ m, k = m + 1 := ⟨k - 1, by omega⟩
    simp only [impl_SkewLanes.l0]
    rw [if_neg (by omega), drop_all L i (by omega), drop_all S i (by omega)]
    simp [skewL]
  | succ d ih =>
    intro o i hi ho k hk
    obtain ⟨k, rfl⟩ : ∃ m, k = m + 1 := ⟨k - 1, by omega⟩
    have hLi := hL _ (List.getElem_mem (show i < L.length by omega))
    have h : 0 ≤ S[i] ∧ S[i] ≤ 3 := of_decide_eq_true (hS _ (List.getElem_mem (by omega)))
    simp only [impl_SkewLanes.l0]
    rw [if_pos (by omega), if_pos (by omega), if_pos (by omega), if_pos (by omega), rd_lt S i (by omega), rdL_lt L i (by omega), wrap_id _ (by omega), if_pos h.1, if_pos (by omega), if_pos (by omega)]
    simp only [Option.bind_some, List.length_replicate]
    rw [if_pos (by omega), if_pos (by omega), wrap_succ i (by omega), ih _ (i + 1) (by omega) (by simp [ho]) k (by omega), drop_cons S i (by omega), drop_cons L i (by omega)]
    simp only [skewL, List.append_assoc, List.singleton_append]
theorem iSkew_ev (L : List (List Int)) (S : List Int) (hn : L.length ≤ 1048576) (hL : ∀ x ∈ L, x.length ≤ 1048576) (hS : S.length ≤ 1048576) (k : Nat) (hk : 1048580 < k) : impl_SkewLanes.f k L S = some (skewR L S) := by
  obtain ⟨k, rfl⟩ : ∃ m, k = m + 1 := ⟨k - 1, by omega⟩
  unfold impl_SkewLanes.f skewR
  by_cases h : L.length = S.length
  · rw [if_pos (by omega), cSkew_ev S (by omega) _ (by omega)]
    simp only [Option.bind_some, impl_SkewLanes.j0]
    by_cases h3 : S.all skB = true
    · have h4 : (S.any fun x => !skB x) = false := by have := any_not S skB; rw [h3] at this; simpa using this
      rw [h4, if_neg (by simp), if_pos ⟨h, h3⟩]
      have h1 := iSkew_l0 L S h hn hL (fun n hn' => List.all_eq_true.1 h3 n hn') L.length [] 0 (by omega) rfl k (by omega)
      rw [List.drop_zero, List.drop_zero, List.nil_append] at h1
      exact h1
    · have h4 : (S.any fun x => !skB x) = true := by have := any_not S skB; rw [Bool.eq_false_iff.mpr h3] at this; simpa using this
      rw [h4, if_pos rfl, if_neg (fun h5 => h3 h5.2)]
  · rw [if_neg (by omega), if_neg (fun h4 => h h4.1)]
    simp [impl_SkewLanes.j0]
theorem skewR_facts (L : List (List Int)) (S : List Int) (hn : L.length ≤ 1048576) (hL : ∀ x ∈ L, x.length ≤ 1048576) : (skewR L S).length ≤ 1048576 ∧ ∀ x ∈ skewR L S, x.length ≤ 1048579 := by
  unfold skewR
  split
  · rename_i h
    exact ⟨by rw [skewL_length L S h.1]; exact hn, skewL_small L S (fun n hn' => List.all_eq_true.1 h.2 n hn') hL⟩
  · exact ⟨by simp, by simp⟩
theorem FnExactSkewLanes : laws_FnExactSkewLanes.Pure := by
  intro l s ⟨hl, hw⟩ ⟨hl2, _⟩
  obtain ⟨r, hr, _, hs⟩ := szIntSS_ev l 1048576 (by omega) (by omega) hl (fun x hx => (hw x hx).1)
  refine ⟨4194400, ?_⟩
  unfold laws_FnExactSkewLanes.f
  by_cases h0 : (1048576 : Int) < (s.length : Int)
  · rw [if_pos h0]
  rw [if_neg h0, hr 4194400 (by omega)]
  simp only [Option.bind_some]
  by_cases h : r < 0
  · rw [if_pos h]
  obtain ⟨hn, hE⟩ := hs (by omega)
  have hsn : s.length ≤ 1048576 := by omega
  obtain ⟨hn2, hE2⟩ := skewR_facts l s hn hE
  have ht := totL_le 1048576 l hE
  have ht2 := totL_le 1048579 (skewR l s) hE2
  have hE' : ∀ x ∈ l, SmallE x := fun x hx => by have := hE x hx; unfold SmallE at this ⊢; omega
  have hm0 := markSS_ev l 1 (by omega) (by omega) hn (fun x hx => by have := hE x hx; unfold SmallE at this; omega) 4194400 (by omega)
  have hm := markSS_ev (skewR l s) 1 (by omega) (by omega) hn2 hE2 4194400 (by omega)
  have hh := heldSS_ev (skewR l s) 1 (by omega) (by omega) hn2 hE2 4194400 (by omega)
  rw [if_neg h]
  simp only [toIntSS_ev l hn hE' 4194400 (by omega), toIntS_ev s hsn 4194400 (by omega), Option.bind_some, sSkew_ev l s hn hE 4194400 (by omega), iSkew_ev l s hn hE hsn 4194400 (by omega), eqIntSS_ev (skewR l s) (skewR l s) hn2 (fun x hx => by have := hE2 x hx; unfold SmallG2; omega) 4194400 (by omega), eqIntS_ev s s (by omega) 4194400 (by omega), eqIntSS_ev l l hn (fun x hx => by have := hE x hx; unfold SmallE at this; unfold SmallG2; omega) 4194400 (by omega), hm0, markIntS_ev s (1 + (totL l : Int)) (by omega) (by omega) (by omega) 4194400 (by omega), hm, hh, decide_true, if_true]
  rw [if_pos (by omega), if_pos (by omega), if_pos (by omega)]

end Go.Proofs.Ytoafbbopicbofaa.Pure
