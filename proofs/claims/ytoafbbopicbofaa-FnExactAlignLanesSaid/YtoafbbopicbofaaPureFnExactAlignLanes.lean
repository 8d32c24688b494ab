/- The statement FnExactAlignLanes over lists of lists of whole numbers: the program and the reference cut lanes behind their marks alike, neither changes what it is given, and the program's answer shares no memory with its arguments or with the answer of another call. Lists that are longer than the law's own bound are let by, as the law itself does. -/
import Derived.Test.YtoafbbopicbofaaPFnExactAlignLanesx4
import Derived.Test.YtoafbbopicbofaaXLists
namespace Go.Proofs.Ytoafbbopicbofaa.Pure
set_option linter.unusedVariables false
set_option linter.unusedSimpArgs false
open Go.RowKit Go.Proofs.Ytoafbbopicbofaa.PFnExactAlignLanes Go.Proofs.YtoafbbopicbofaaW.PrintWords Go.Proofs.YtoafbbopicbofaaW.PrintLast Go.Proofs.YtoafbbopicbofaaW.PrintMore Go.Proofs.YtoafbbopicbofaaX

/-- A row that is no longer than the law's bound. -/
def SmallE (x : List Int) : Prop := x.length ≤ 1048576
def FitE (x : List Int) : Prop := x.length ≤ 9223372036854775807
theorem rdL_lt (l : List (List Int)) (i : Nat) (h : i < l.length) : rd_L1 l (i : Int) = l[i] := by
  show l.getD i [] = l[i]
  simp [h]
theorem szIntS_eq (l : List Int) (left : Int) (h0 : 0 ≤ left) (h1 : left ≤ 1048576) (hl : l.length ≤ 9223372036854775807) : laws_szIntS.f l left = some (if left < l.length then -1 else left - l.length) := by
  unfold laws_szIntS.f
  rw [wrap_id _ (by omega)]
  by_cases h : left < l.length
  · rw [if_pos (by omega), if_pos h]
  · rw [if_neg (by omega), if_neg h]
theorem szE (x : List Int) (left : Int) (h0 : 0 ≤ left) (h1 : left ≤ 1048576) (hw : FitE x) : ∃ r, laws_szIntS.f x left = some r ∧ r ≤ left ∧ (0 ≤ r → SmallE x) := by
  unfold FitE at hw
  refine ⟨_, szIntS_eq x left h0 h1 hw, ?_, fun h => ?_⟩
  · split <;> omega
  · unfold SmallE
    split at h <;> omega
theorem szIntSS_l0 (l : List (List Int)) (hl : l.length ≤ 1048576) (hw : ∀ x ∈ l, FitE x) (d : Nat) : ∀ (i : Nat) (left : Int), 0 ≤ left → left ≤ 1048576 → i + d = l.length → ∃ r, (∀ k, d < k → laws_szIntSS.l0 k l left (i : Int) = some r) ∧ r ≤ left ∧ (0 ≤ r → ∀ x ∈ l.drop i, SmallE x) := by
  induction d with
  | zero =>
    intro i left h0 h1 hi
    refine ⟨left, fun k hk => ?_, Int.le_refl _, fun _ x hx => ?_⟩
    · obtain ⟨k, rfl⟩ : ∃ m, k = m + 1 := ⟨k - 1, by omega⟩
      simp only [laws_szIntSS.l0]
      rw [if_neg (show ¬ (i : Int) < (l.length : Int) by omega)]
    · rw [drop_all l i (by omega)] at hx; cases hx
  | succ d ih =>
    intro i left h0 h1 hi
    have hlt : i < l.length := by omega
    obtain ⟨q, e, hq1, hq2⟩ := szE l[i] left h0 h1 (hw _ (List.getElem_mem hlt))
    by_cases hq : q < 0
    · refine ⟨-1, fun k hk => ?_, by omega, fun h => by omega⟩
      obtain ⟨k, rfl⟩ : ∃ m, k = m + 1 := ⟨k - 1, by omega⟩
      simp only [laws_szIntSS.l0]
      rw [if_pos (show (i : Int) < (l.length : Int) by omega), if_pos (show (0 : Int) ≤ (i : Int) by omega), rdL_lt l i hlt, e]
      simp only [Option.bind_some]
      rw [if_pos hq]
    · obtain ⟨r, hr1, hr2, hr3⟩ := ih (i + 1) q (by omega) (by omega) (by omega)
      refine ⟨r, fun k hk => ?_, by omega, fun h x hx => ?_⟩
      · obtain ⟨k, rfl⟩ : ∃ m, k = m + 1 := ⟨k - 1, by omega⟩
        simp only [laws_szIntSS.l0]
        rw [if_pos (show (i : Int) < (l.length : Int) by omega), if_pos (show (0 : Int) ≤ (i : Int) by omega), rdL_lt l i hlt, e]
        simp only [Option.bind_some]
        rw [if_neg hq, wrap_succ i (by omega)]
        exact hr1 k (by omega)
      · rw [drop_cons l i hlt] at hx
        rcases List.mem_cons.1 hx with rfl | hx
        · exact hq2 (by omega)
        · exact hr3 h x hx
theorem szIntSS_ev (l : List (List Int)) (left : Int) (h0 : 0 ≤ left) (h1 : left ≤ 1048576) (hm : l.length ≤ 9223372036854775807) (hw : ∀ x ∈ l, FitE x) : ∃ r, (∀ k, 1048577 ≤ k → laws_szIntSS.f k l left = some r) ∧ r ≤ left ∧ (0 ≤ r → l.length ≤ 1048576 ∧ ∀ x ∈ l, SmallE x) := by
  unfold laws_szIntSS.f
  rw [wrap_id _ (by omega)]
  by_cases h : left - (l.length : Int) < 0
  · refine ⟨-1, fun k hk => ?_, by omega, fun h => by omega⟩
    rw [if_pos h]
  · obtain ⟨r, hr1, hr2, hr3⟩ := szIntSS_l0 l (by omega) hw l.length 0 (left - (l.length : Int)) (by omega) (by omega) (by omega)
    refine ⟨r, fun k hk => ?_, by omega, fun h => ⟨by omega, fun x hx => hr3 h x (by simpa using hx)⟩⟩
    rw [if_neg h]
    exact hr1 k (by omega)
theorem toIntS_l0 (l : List Int) (hb : l.length ≤ 1048576) (d : Nat) : ∀ (x : List Int) (i : Nat), x.length = l.length → x.take i = l.take i → i + d = l.length → ∀ k, d < k → laws_toIntS.l0 k l x (i : Int) = some l := by
  induction d with
  | zero =>
    intro x i hx ht hi k hk
    obtain ⟨k, rfl⟩ : ∃ m, k = m + 1 := ⟨k - 1, by omega⟩
    simp only [laws_toIntS.l0]
    rw [if_neg (show ¬ (i : Int) < (l.length : Int) by omega), fill_end x l i hx (by omega) ht]
  | succ d ih =>
    intro x i hx ht hi k hk
    obtain ⟨k, rfl⟩ : ∃ m, k = m + 1 := ⟨k - 1, by omega⟩
    simp only [laws_toIntS.l0]
    rw [if_pos (show (i : Int) < (l.length : Int) by omega), if_pos (show (0 : Int) ≤ (i : Int) by omega), if_pos (show (i : Int) < (x.length : Int) by omega), wrap_succ i (by omega), toNat_nat, rd_lt l i (by omega)]
    exact ih _ (i + 1) (by simp [hx]) (fill_step x l i _ (by omega) (by omega) ht rfl) (by omega) k (by omega)
theorem toIntS_ev (l : List Int) (hb : l.length ≤ 1048576) : ∀ k, l.length < k → laws_toIntS.f k l = some l := by
  intro k hk
  unfold laws_toIntS.f
  rw [if_pos (by omega), if_pos (by omega)]
  exact toIntS_l0 l hb l.length _ 0 (by simp) (by simp) (by omega) k hk
theorem toIntSS_l0 (l : List (List Int)) (hb : l.length ≤ 1048576) (he : ∀ x ∈ l, SmallE x) (d : Nat) : ∀ (x : List (List Int)) (i : Nat), x.length = l.length → x.take i = l.take i → i + d = l.length → ∀ k, 1048577 + d < k → laws_toIntSS.l0 k l x (i : Int) = some l := by
  induction d with
  | zero =>
    intro x i hx ht hi k hk
    obtain ⟨k, rfl⟩ : ∃ m, k = m + 1 := ⟨k - 1, by omega⟩
    simp only [laws_toIntSS.l0]
    rw [if_neg (show ¬ (i : Int) < (l.length : Int) by omega), fill_end x l i hx (by omega) ht]
  | succ d ih =>
    intro x i hx ht hi k hk
    obtain ⟨k, rfl⟩ : ∃ m, k = m + 1 := ⟨k - 1, by omega⟩
    have hlt : i < l.length := by omega
    simp only [laws_toIntSS.l0]
    rw [if_pos (show (i : Int) < (l.length : Int) by omega), if_pos (show (0 : Int) ≤ (i : Int) by omega), rdL_lt l i hlt, toIntS_ev l[i] (he _ (List.getElem_mem hlt)) k (by have := (he _ (List.getElem_mem hlt)); unfold SmallE at this; omega)]
    simp only [Option.bind_some]
    rw [if_pos (show (i : Int) < (x.length : Int) by omega), wrap_succ i (by omega), toNat_nat]
    exact ih _ (i + 1) (by simp [hx]) (fill_step x l i _ (by omega) (by omega) ht rfl) (by omega) k (by omega)
theorem toIntSS_ev (l : List (List Int)) (hb : l.length ≤ 1048576) (he : ∀ x ∈ l, SmallE x) : ∀ k, 1048577 + l.length < k → laws_toIntSS.f k l = some l := by
  intro k hk
  unfold laws_toIntSS.f
  rw [if_pos (by omega), if_pos (by omega)]
  exact toIntSS_l0 l hb he l.length _ 0 (by simp) (by simp) (by omega) k hk
theorem eqIntS_l0 (a b : List Int) (hl : a.length = b.length) (hb : a.length < 9223372036854775807) (d : Nat) : ∀ (i : Nat), i + d = a.length → ∀ k, d < k → laws_eqIntS.l0 k a b (i : Int) = some (decide (a.drop i = b.drop i)) := by
  induction d with
  | zero =>
    intro i hi k hk
    obtain ⟨k, rfl⟩ : ∃ m, k = m + 1 := ⟨k - 1, by omega⟩
    simp only [laws_eqIntS.l0]
    rw [if_neg (show ¬ (i : Int) < (a.length : Int) by omega), drop_all a i (by omega), drop_all b i (by omega)]
    simp
  | succ d ih =>
    intro i hi k hk
    obtain ⟨k, rfl⟩ : ∃ m, k = m + 1 := ⟨k - 1, by omega⟩
    simp only [laws_eqIntS.l0]
    rw [if_pos (show (i : Int) < (a.length : Int) by omega), if_pos (show (0 : Int) ≤ (i : Int) by omega), if_pos (show (i : Int) < (b.length : Int) by omega)]
    by_cases he : rd a (i : Int) = rd b (i : Int)
    · rw [if_pos he, wrap_succ i (by omega), ih (i + 1) (by omega) k (by omega)]
      congr 1
      rw [decide_eq_decide, drop_eq_iff a b i (by omega) (by omega)]
      exact ⟨fun h => ⟨he, h⟩, fun h => h.2⟩
    · rw [if_neg he]
      congr 1
      symm
      rw [decide_eq_false_iff_not, drop_eq_iff a b i (by omega) (by omega)]
      exact fun h => he h.1
theorem eqIntS_ev (a b : List Int) (hb : a.length < 9223372036854775807) : ∀ k, a.length < k → laws_eqIntS.f k a b = some (decide (a = b)) := by
  intro k hk
  unfold laws_eqIntS.f
  by_cases hl : a.length = b.length
  · rw [if_pos (by omega)]
    exact eqIntS_l0 a b hl hb a.length 0 (by omega) k hk
  · rw [if_neg (by omega), decide_eq_false (fun h => hl (by rw [h]))]
theorem eqIntSS_l0 (a b : List (List Int)) (hl : a.length = b.length) (hb : a.length ≤ 1048576) (he : ∀ x ∈ a, SmallE x) (d : Nat) : ∀ (i : Nat), i + d = a.length → ∀ k, 1048577 + d < k → laws_eqIntSS.l0 k a b (i : Int) = some (decide (a.drop i = b.drop i)) := by
  induction d with
  | zero =>
    intro i hi k hk
    obtain ⟨k, rfl⟩ : ∃ m, k = m + 1 := ⟨k - 1, by omega⟩
    simp only [laws_eqIntSS.l0]
    rw [if_neg (show ¬ (i : Int) < (a.length : Int) by omega), drop_all a i (by omega), drop_all b i (by omega)]
    simp
  | succ d ih =>
    intro i hi k hk
    obtain ⟨k, rfl⟩ : ∃ m, k = m + 1 := ⟨k - 1, by omega⟩
    have h1 : i < a.length := by omega
    have h2 : i < b.length := by omega
    simp only [laws_eqIntSS.l0]
    rw [if_pos (show (i : Int) < (a.length : Int) by omega), if_pos (show (0 : Int) ≤ (i : Int) by omega), if_pos (show (i : Int) < (b.length : Int) by omega), rdL_lt a i h1, rdL_lt b i h2, eqIntS_ev a[i] b[i] (by have := (he _ (List.getElem_mem h1)); unfold SmallE at this; omega) k (by have := (he _ (List.getElem_mem h1)); unfold SmallE at this; omega)]
    simp only [Option.bind_some]
    by_cases hq : a[i] = b[i]
    · rw [if_pos (decide_eq_true hq), wrap_succ i (by omega), ih (i + 1) (by omega) k (by omega)]
      congr 1
      rw [decide_eq_decide, drop_cons a i h1, drop_cons b i h2, List.cons.injEq]
      exact ⟨fun h => ⟨hq, h⟩, fun h => h.2⟩
    · rw [if_neg (by simp [hq])]
      congr 1
      symm
      rw [decide_eq_false_iff_not, drop_cons a i h1, drop_cons b i h2, List.cons.injEq]
      exact fun h => hq h.1
theorem eqIntSS_ev (a b : List (List Int)) (hb : a.length ≤ 1048576) (he : ∀ x ∈ a, SmallE x) : ∀ k, 1048577 + a.length < k → laws_eqIntSS.f k a b = some (decide (a = b)) := by
  intro k hk
  unfold laws_eqIntSS.f
  by_cases hl : a.length = b.length
  · rw [if_pos (by omega)]
    exact eqIntSS_l0 a b hl hb he a.length 0 (by omega) k hk
  · rw [if_neg (by omega), decide_eq_false (fun h => hl (by rw [h]))]
/-- The numbers s, s + 1, .. -/
def markL (n : Nat) (s : Int) : List Int := (List.range n).map fun (i : Nat) => s + (i : Int)
theorem markL_length (n : Nat) (s : Int) : (markL n s).length = n := by simp [markL]
theorem markL_get (n : Nat) (s : Int) (i : Nat) (h : i < (markL n s).length) : (markL n s)[i] = s + (i : Int) := by simp [markL]
theorem markIntS_l0 (n : Nat) (s : Int) (hn : n ≤ 1048576) (h0 : 0 ≤ s) (h1 : s ≤ 4000000000000000000) (d : Nat) : ∀ (x : List Int) (i : Nat), x.length = n → x.take i = (markL n s).take i → i + d = n → ∀ k, d < k → laws_markIntS.l0 k x (s + (i : Int)) (i : Int) = some (s + (n : Int), markL n s) := by
  induction d with
  | zero =>
    intro x i hx ht hi k hk
    obtain ⟨k, rfl⟩ : ∃ m, k = m + 1 := ⟨k - 1, by omega⟩
    simp only [laws_markIntS.l0]
    have hlen := markL_length n s
    rw [if_neg (show ¬ (i : Int) < (x.length : Int) by omega), fill_end x (markL n s) i (by omega) (by omega) ht, show i = n by omega]
  | succ d ih =>
    intro x i hx ht hi k hk
    obtain ⟨k, rfl⟩ : ∃ m, k = m + 1 := ⟨k - 1, by omega⟩
    have hlen := markL_length n s
    simp only [laws_markIntS.l0]
    rw [if_pos (show (i : Int) < (x.length : Int) by omega), if_pos (show (0 : Int) ≤ (i : Int) by omega), wrap_succ i (by omega), toNat_nat, wrap_id (s + (i : Int) + 1) (by omega)]
    have e : s + (i : Int) + 1 = s + ((i + 1 : Nat) : Int) := by omega
    rw [e]
    exact ih _ (i + 1) (by simp [hx]) (fill_step x (markL n s) i _ (by omega) (by omega) ht (markL_get n s i (by omega)).symm) (by omega) k (by omega)
theorem markIntS_ev (l : List Int) (s : Int) (hn : l.length ≤ 1048576) (h0 : 0 ≤ s) (h1 : s ≤ 4000000000000000000) (k : Nat) (hk : l.length < k) : laws_markIntS.f k l s = some (s + (l.length : Int), markL l.length s) := by
  unfold laws_markIntS.f
  have h := markIntS_l0 l.length s hn h0 h1 l.length l 0 rfl (by simp) (by omega) k hk
  simpa using h
theorem heldIntS_l0 (n : Nat) (s : Int) (hn : n ≤ 1048576) (h0 : 0 ≤ s) (h1 : s ≤ 4000000000000000000) (d : Nat) : ∀ (i : Nat), i + d = n → ∀ k, d < k → laws_heldIntS.l0 k (markL n s) (s + (i : Int)) (i : Int) = some (s + (n : Int)) := by
  have hlen := markL_length n s
  induction d with
  | zero =>
    intro i hi k hk
    obtain ⟨k, rfl⟩ : ∃ m, k = m + 1 := ⟨k - 1, by omega⟩
    simp only [laws_heldIntS.l0]
    rw [if_neg (show ¬ (i : Int) < ((markL n s).length : Int) by omega), show i = n by omega]
  | succ d ih =>
    intro i hi k hk
    obtain ⟨k, rfl⟩ : ∃ m, k = m + 1 := ⟨k - 1, by omega⟩
    simp only [laws_heldIntS.l0]
    rw [if_pos (show (i : Int) < ((markL n s).length : Int) by omega), if_pos (show (0 : Int) ≤ (i : Int) by omega), rd_lt _ i (by omega), markL_get n s i (by omega), if_pos rfl, wrap_succ i (by omega), wrap_id (s + (i : Int) + 1) (by omega)]
    have e : s + (i : Int) + 1 = s + ((i + 1 : Nat) : Int) := by omega
    rw [e]
    exact ih (i + 1) (by omega) k (by omega)
theorem heldIntS_ev (n : Nat) (s : Int) (hn : n ≤ 1048576) (h0 : 0 ≤ s) (h1 : s ≤ 4000000000000000000) (k : Nat) (hk : n < k) : laws_heldIntS.f k (markL n s) s = some (s + (n : Int)) := by
  unfold laws_heldIntS.f
  have h := heldIntS_l0 n s hn h0 h1 n 0 (by omega) k hk
  simpa using h
/-- All rows' lengths. -/
def totL : List (List Int) → Nat
  | [] => 0
  | x :: l => x.length + totL l
def markLL : List (List Int) → Int → List (List Int)
  | [], _ => []
  | x :: l, s => markL x.length s :: markLL l (s + (x.length : Int))
theorem rdL_mid (done : List (List Int)) (x : List Int) (rest : List (List Int)) : rd_L1 (done ++ x :: rest) (done.length : Int) = x := by
  unfold rd_L1
  rw [toNat_nat]
  simp
theorem set_mid {α : Type} (done : List α) (x y : α) (rest : List α) : (done ++ x :: rest).set done.length y = (done ++ [y]) ++ rest := by
  rw [List.set_append_right _ _ (Nat.le_refl _)]
  simp
theorem markSS_l0 (rest : List (List Int)) : ∀ (done : List (List Int)) (s : Int), 0 ≤ s → s + (totL rest : Int) ≤ 4000000000000000000 → done.length + rest.length ≤ 1048576 → (∀ x ∈ rest, x.length ≤ 1048576) → ∀ k, 1048577 + rest.length < k → laws_markIntSS.l0 k (done ++ rest) s (done.length : Int) = some (s + (totL rest : Int), done ++ markLL rest s) := by
  induction rest with
  | nil =>
    intro done s h0 h1 hl hs k hk
    obtain ⟨k, rfl⟩ : ∃ m, k = m + 1 := ⟨k - 1, by omega⟩
    simp only [laws_markIntSS.l0]
    rw [if_neg (by rw [List.append_nil]; omega)]
    simp [totL, markLL]
  | cons x rest ih =>
    intro done s h0 h1 hl hs k hk
    obtain ⟨k, rfl⟩ : ∃ m, k = m + 1 := ⟨k - 1, by omega⟩
    have hx := hs x (by simp)
    simp only [List.length_cons] at hk hl
    have ht : totL (x :: rest) = x.length + totL rest := rfl
    simp only [laws_markIntSS.l0]
    rw [if_pos (by rw [List.length_append, List.length_cons]; omega), if_pos (by omega), rdL_mid, markIntS_ev x s hx h0 (by omega) k (by omega)]
    simp only [Option.bind_some]
    rw [wrap_succ _ (by omega), toNat_nat, set_mid]
    have h := ih (done ++ [markL x.length s]) (s + (x.length : Int)) (by omega) (by omega) (by rw [List.length_append, List.length_singleton]; omega) (fun y hy => hs y (by simp [hy])) k (by omega)
    rw [List.length_append, List.length_singleton] at h
    rw [h, ht]
    simp only [markLL, List.append_assoc, List.singleton_append]
    congr 2
    omega
theorem markSS_ev (l : List (List Int)) (s : Int) (h0 : 0 ≤ s) (h1 : s + (totL l : Int) ≤ 4000000000000000000) (hl : l.length ≤ 1048576) (hs : ∀ x ∈ l, x.length ≤ 1048576) (k : Nat) (hk : 2097155 < k) : laws_markIntSS.f k l s = some (s + (totL l : Int), markLL l s) := by
  unfold laws_markIntSS.f
  exact markSS_l0 l [] s h0 h1 (by simpa using hl) hs k (by omega)
theorem heldSS_l0 (rest : List (List Int)) : ∀ (done : List (List Int)) (s : Int), 0 ≤ s → s + (totL rest : Int) ≤ 4000000000000000000 → done.length + rest.length ≤ 1048576 → (∀ x ∈ rest, x.length ≤ 1048576) → ∀ k, 1048577 + rest.length < k → laws_heldIntSS.l0 k (done ++ markLL rest s) s (done.length : Int) = some (s + (totL rest : Int)) := by
  induction rest with
  | nil =>
    intro done s h0 h1 hl hs k hk
    obtain ⟨k, rfl⟩ : ∃ m, k = m + 1 := ⟨k - 1, by omega⟩
    simp only [laws_heldIntSS.l0]
    rw [if_neg (by simp only [markLL, List.append_nil]; omega)]
    simp [totL]
  | cons x rest ih =>
    intro done s h0 h1 hl hs k hk
    obtain ⟨k, rfl⟩ : ∃ m, k = m + 1 := ⟨k - 1, by omega⟩
    have hx := hs x (by simp)
    simp only [List.length_cons] at hk hl
    have ht : totL (x :: rest) = x.length + totL rest := rfl
    show laws_heldIntSS.l0 (k + 1) (done ++ markL x.length s :: markLL rest (s + (x.length : Int))) s (done.length : Int) = _
    simp only [laws_heldIntSS.l0]
    rw [if_pos (by rw [List.length_append, List.length_cons]; omega), if_pos (by omega), rdL_mid, heldIntS_ev x.length s hx h0 (by omega) k (by omega)]
    simp only [Option.bind_some]
    rw [if_neg (by omega), wrap_succ _ (by omega)]
    have h := ih (done ++ [markL x.length s]) (s + (x.length : Int)) (by omega) (by omega) (by rw [List.length_append, List.length_singleton]; omega) (fun y hy => hs y (by simp [hy])) k (by omega)
    rw [List.length_append, List.length_singleton, List.append_assoc, List.singleton_append] at h
    rw [h, ht]
    congr 1
    omega
theorem heldSS_ev (l : List (List Int)) (s : Int) (h0 : 0 ≤ s) (h1 : s + (totL l : Int) ≤ 4000000000000000000) (hl : l.length ≤ 1048576) (hs : ∀ x ∈ l, x.length ≤ 1048576) (k : Nat) (hk : 2097155 < k) : laws_heldIntSS.f k (markLL l s) s = some (s + (totL l : Int)) := by
  unfold laws_heldIntSS.f
  exact heldSS_l0 l [] s h0 h1 (by simpa using hl) hs k (by omega)
theorem totL_le (m : Nat) (l : List (List Int)) (h : ∀ x ∈ l, x.length ≤ m) : totL l ≤ l.length * m := by
  induction l with
  | nil => simp [totL]
  | cons x l ih =>
    have h1 := h x (by simp)
    have h2 := ih (fun y hy => h y (by simp [hy]))
    simp only [totL, List.length_cons, Nat.succ_mul]
    omega
def wdB (a : Int) : Bool := if a = 1 then true else if a = 2 then true else (a == 4)
theorem wdB_nat (a : Int) (h : wdB a = true) : ∃ w : Nat, a = (w : Int) ∧ (w = 1 ∨ w = 2 ∨ w = 4) := by
  unfold wdB at h
  split at h
  · exact ⟨1, by omega, by omega⟩
  split at h
  · exact ⟨2, by omega, by omega⟩
  · exact ⟨4, by have := beq_iff_eq.mp h; omega, by omega⟩
theorem sIsWidth_eq (a : Int) : spec_IsWidth.f a = some (wdB a) := by
  unfold spec_IsWidth.f wdB
  split
  · rfl
  split <;> rfl
theorem iIsWidth_eq (a : Int) : impl_IsWidth.f a = some (wdB a) := by
  unfold impl_IsWidth.f wdB
  split
  · rfl
  split <;> rfl
theorem clone_ev (l : List Int) (h : l.length ≤ 1048576) : slices_Clone_int_int.f l = some l := by
  unfold slices_Clone_int_int.f
  simp only [Option.bind_some, List.nil_append, List.length_nil]
  rw [if_pos (by omega)]
/-- Where a lane's mark stands. -/
def mk256 (l : List Int) : Nat := l.findIdx (fun x => x == 256)
def alB (l : List Int) : Bool := decide (mk256 l ≤ 3 ∧ mk256 l < l.length)
def cutA (l : List Int) : List Int := l.drop (mk256 l + 1)
theorem mk256_at (l : List Int) (j : Nat) (h : j < l.length) (hj : j ≤ mk256 l) : l[j] = 256 ↔ j = mk256 l := by
  constructor
  · intro e
    by_cases hlt : j < mk256 l
    · have := List.not_of_lt_findIdx hlt
      simp [e] at this
    · omega
  · intro e
    subst e
    have := List.findIdx_getElem (w := h) (p := fun x : Int => x == 256)
    exact beq_iff_eq.mp this
theorem mk256_le (l : List Int) : mk256 l ≤ l.length := List.findIdx_le_length
theorem sAl_fin (L : List (List Int)) (hL : ∀ x ∈ L, x.length ≤ 1048576) (i : Nat) (hi : i < L.length) (o : List (List Int)) (ho : o.length ≤ 4) (R : List (List Int) × Bool) (k : Nat)
    (H : alB L[i] = true → spec_AlignLanes.l0 k L (o ++ [cutA L[i]]) ((i + 1 : Nat) : Int) = some R) (H2 : alB L[i] = false → R = ([], false)) (hI : L.length ≤ 4) (j : Nat) (hj : j = mk256 L[i]) :
    (if (j : Int) > 3 then (some ((([] : List (List Int))), false)) else (if (j : Int) = ((rd_L1 L (i : Int)).length : Int) then (some ((([] : List (List Int))), false)) else ((some (([] : List Int) : List Int)).bind fun y157 => (if 0 ≤ (wrap64 ((j : Int) + 1)) then (if (wrap64 ((j : Int) + 1)) ≤ ((rd_L1 L (i : Int)).length : Int) then (if y157.length + ((rd_L1 L (i : Int)).drop ((wrap64 ((j : Int) + 1)) : Int).toNat).length < 17592186044416 then (if o.length < 5864062014805 then (spec_AlignLanes.l0 k L (o ++ [(y157 ++ ((rd_L1 L (i : Int)).drop ((wrap64 ((j : Int) + 1)) : Int).toNat))]) (wrap64 ((i : Int) + 1))) else (none)) else (none)) else (none)) else (none))))) = some R := by
  have hx := hL _ (List.getElem_mem hi)
  have hle := mk256_le L[i]
  subst hj
  rw [rdL_lt L i hi]
  by_cases h1 : mk256 L[i] ≤ 3
  · by_cases h2 : mk256 L[i] < L[i].length
    · rw [if_neg (by omega), if_neg (by omega)]
      rw [Option.bind_some, wrap_succ _ (by omega), toNat_nat, if_pos (by omega), if_pos (by omega), if_pos (by rw [List.length_nil, List.length_drop]; omega), if_pos (by omega), wrap_succ i (by omega), List.nil_append]
      exact H (decide_eq_true ⟨h1, h2⟩)
    · rw [if_neg (by omega), if_pos (by omega), H2 (decide_eq_false (fun h => h2 h.2))]
  · rw [if_pos (by omega), H2 (decide_eq_false (fun h => h1 h.1))]
theorem sAl_l1 (L : List (List Int)) (hL : ∀ x ∈ L, x.length ≤ 1048576) (i : Nat) (hi : i < L.length) (o : List (List Int)) (ho : o.length ≤ 4) (R : List (List Int) × Bool) (B : Nat)
    (H : alB L[i] = true → ∀ k, B < k → spec_AlignLanes.l0 k L (o ++ [cutA L[i]]) ((i + 1 : Nat) : Int) = some R) (H2 : alB L[i] = false → R = ([], false)) (hI : L.length ≤ 4) (d : Nat) :
    ∀ j : Nat, j ≤ mk256 L[i] → L[i].length ≤ j + d → ∀ k, B + d + 1 < k → spec_AlignLanes.l1 k L o (i : Int) (j : Int) = some R := by
  have hx := hL _ (List.getElem_mem hi)
  have hle := mk256_le L[i]
  induction d with
  | zero =>
    intro j hj hd k hk
    obtain ⟨k, rfl⟩ : ∃ m, k = m + 1 := ⟨k - 1, by omega⟩
    simp only [spec_AlignLanes.l1]
    rw [if_pos (by omega), if_pos (by omega)]
    have e : ¬ (j : Int) < ((rd_L1 L (i : Int)).length : Int) := by rw [rdL_lt L i hi]; omega
    rw [if_neg e]
    exact sAl_fin L hL i hi o ho R k (fun hb => H hb k (by omega)) H2 hI j (by omega)
  | succ d ih =>
    intro j hj hd k hk
    obtain ⟨k, rfl⟩ : ∃ m, k = m + 1 := ⟨k - 1, by omega⟩
    simp only [spec_AlignLanes.l1]
    rw [if_pos (by omega), if_pos (by omega)]
    by_cases h : j < L[i].length
    · have e : (j : Int) < ((rd_L1 L (i : Int)).length : Int) := by rw [rdL_lt L i hi]; omega
      rw [if_pos e, if_pos (by omega)]
      have hr : rd (rd_L1 L (i : Int)) (j : Int) = L[i][j] := by rw [rdL_lt L i hi, rd_lt _ j h]
      rw [hr]
      by_cases hq : L[i][j] = 256
      · rw [if_pos hq]
        exact sAl_fin L hL i hi o ho R k (fun hb => H hb k (by omega)) H2 hI j ((mk256_at _ j h hj).1 hq)
      · rw [if_neg hq, wrap_succ j (by omega)]
        have hne : j ≠ mk256 L[i] := fun e => hq ((mk256_at _ j h hj).2 e)
        exact ih (j + 1) (by omega) (by omega) k (by omega)
    · have e : ¬ (j : Int) < ((rd_L1 L (i : Int)).length : Int) := by rw [rdL_lt L i hi]; omega
      rw [if_neg e]
      exact sAl_fin L hL i hi o ho R k (fun hb => H hb k (by omega)) H2 hI j (by omega)
def alR (L : List (List Int)) : List (List Int) × Bool := if wdB (L.length : Int) = true ∧ L.all alB = true then (L.map cutA, true) else ([], false)
theorem sAl_l0 (L : List (List Int)) (hL : ∀ x ∈ L, x.length ≤ 1048576) (hI : L.length ≤ 4) (d : Nat) : ∀ (o : List (List Int)) (i : Nat), i + d = L.length → o.length = i → ∀ k, d * 1048590 < k → spec_AlignLanes.l0 k L o (i : Int) = some (if (L.drop i).all alB = true then (o ++ (L.drop i).map cutA, true) else ([], false)) := by
  induction d with
  | zero =>
    intro o i hi ho k hk
    obtain ⟨k, rfl⟩ : ∃ m, k = m + 1 := ⟨k - 1, by omega⟩
    simp only [spec_AlignLanes.l0]
    rw [if_neg (by omega), drop_all L i (by omega)]
    simp
  | succ d ih =>
    intro o i hi ho k hk
    obtain ⟨k, rfl⟩ : ∃ m, k = m + 1 := ⟨k - 1, by omega⟩
    have hx := hL _ (List.getElem_mem (show i < L.length by omega))
    simp only [spec_AlignLanes.l0]
    rw [if_pos (by omega), drop_cons L i (by omega), List.all_cons, List.map_cons]
    refine sAl_l1 L hL i (by omega) o (by omega) _ (d * 1048590) (fun hb k' hk' => ?_) (fun hb => by rw [hb, Bool.false_and, if_neg (by simp)]) hI L[i].length 0 (by omega) (by omega) k (by omega)
    rw [hb, Bool.true_and, ih _ (i + 1) (by omega) (by simp [ho]) k' hk']
    simp only [List.append_assoc, List.singleton_append]
theorem sAl_ev (L : List (List Int)) (hL : ∀ x ∈ L, x.length ≤ 1048576) (k : Nat) (hk : 4194380 < k) : spec_AlignLanes.f k L = some (alR L) := by
  unfold spec_AlignLanes.f alR
  simp only [Option.bind_some]
  rw [sIsWidth_eq]
  simp only [Option.bind_some]
  by_cases h : wdB (L.length : Int) = true
  · obtain ⟨w, hw, hw'⟩ := wdB_nat _ h
    rw [if_pos h]
    have h1 := sAl_l0 L hL (by omega) L.length [] 0 (by omega) rfl k (by omega)
    rw [List.drop_zero, List.nil_append] at h1
    have h2 : ((0 : Nat) : Int) = 0 := rfl
    rw [h2] at h1
    rw [h1]
    by_cases h3 : L.all alB = true
    · rw [if_pos h3, if_pos ⟨h, h3⟩]
    · rw [if_neg h3, if_neg (fun h4 => h3 h4.2)]
  · rw [if_neg h, if_neg (fun h4 => h h4.1)]
theorem ix_l0 (l : List Int) (hl : l.length ≤ 1048576) (d : Nat) : ∀ j : Nat, j ≤ mk256 l → j + d = l.length → ∀ k, d < k → slices_Index_int_int.l0 k l 256 (l.length : Int) (j : Int) = some (if mk256 l < l.length then (mk256 l : Int) else -1) := by
  have hle := mk256_le l
  induction d with
  | zero =>
    intro j hj hd k hk
    obtain ⟨k, rfl⟩ : ∃ m, k = m + 1 := ⟨k - 1, by omega⟩
    simp only [slices_Index_int_int.l0]
    rw [if_neg (by omega), if_neg (by omega)]
  | succ d ih =>
    intro j hj hd k hk
    obtain ⟨k, rfl⟩ : ∃ m, k = m + 1 := ⟨k - 1, by omega⟩
    simp only [slices_Index_int_int.l0]
    rw [if_pos (by omega), if_pos (by omega), if_pos (by omega), rd_lt l j (by omega)]
    by_cases hq : l[j] = 256
    · have e := (mk256_at l j (by omega) hj).1 hq
      rw [if_pos hq.symm, ← e, if_pos (by omega)]
    · have hne : j ≠ mk256 l := fun e => hq ((mk256_at l j (by omega) hj).2 e)
      rw [if_neg (fun e => hq e.symm), wrap_succ j (by omega)]
      exact ih (j + 1) (by omega) (by omega) k (by omega)
theorem mk256_take (l : List Int) : mk256 (l.take (min l.length 4)) = min (min l.length 4) (mk256 l) := by
  unfold mk256
  exact List.findIdx_take
theorem ix_ev (l : List Int) (k : Nat) (hk : 4 < k) : slices_Index_int_int.f k (l.take (min l.length 4)) 256 = some (if alB l = true then (mk256 l : Int) else -1) := by
  have hlen : (l.take (min l.length 4)).length = min l.length 4 := by rw [List.length_take]; omega
  unfold slices_Index_int_int.f
  have h := ix_l0 (l.take (min l.length 4)) (by omega) (min l.length 4) 0 (by omega) (by omega) k (by omega)
  have h2 : ((0 : Nat) : Int) = 0 := rfl
  rw [h2] at h
  rw [h, hlen, mk256_take]
  unfold alB
  by_cases h1 : mk256 l ≤ 3 ∧ mk256 l < l.length
  · rw [if_pos (by omega), if_pos (decide_eq_true h1)]
    congr 2
    omega
  · rw [if_neg (by omega), if_neg (by simpa using h1)]
theorem iAl_l0 (L : List (List Int)) (hL : ∀ x ∈ L, x.length ≤ 1048576) (hI : L.length ≤ 4) (d : Nat) : ∀ (o : List (List Int)) (i : Nat), i + d = L.length → o.length = i → ∀ k, d + 10 < k → impl_AlignLanes.l0 k o L (L.length : Int) (i : Int) = some (if (L.drop i).all alB = true then (o ++ (L.drop i).map cutA, true) else ([], false)) := by
  induction d with
  | zero =>
    intro o i hi ho k hk
    obtain ⟨k, rfl⟩ : ∃ m, k = m + 1 := ⟨k - 1, by omega⟩
    simp only [impl_AlignLanes.l0]
    rw [if_neg (by omega), drop_all L i (by omega)]
    simp
  | succ d ih =>
    intro o i hi ho k hk
    obtain ⟨k, rfl⟩ : ∃ m, k = m + 1 := ⟨k - 1, by omega⟩
    have hx := hL _ (List.getElem_mem (show i < L.length by omega))
    have hmn : mn (L[i].length : Int) 4 = ((min L[i].length 4 : Nat) : Int) := by unfold mn; split <;> omega
    simp only [impl_AlignLanes.l0]
    rw [if_pos (by omega), if_pos (by omega), if_pos (by omega), rdL_lt L i (by omega), hmn, toNat_nat, if_pos (by omega), if_pos (by omega), ix_ev L[i] k (by omega)]
    simp only [Option.bind_some]
    rw [drop_cons L i (by omega), List.all_cons, List.map_cons]
    by_cases hb : alB L[i] = true
    · have hb' := of_decide_eq_true hb
      rw [if_pos hb, if_neg (by omega), wrap_succ _ (by omega), toNat_nat, if_pos (by omega), if_pos (by omega), clone_ev _ (by rw [List.length_drop]; omega)]
      simp only [Option.bind_some]
      rw [if_pos (by omega), wrap_succ i (by omega), ih _ (i + 1) (by omega) (by simp [ho]) k (by omega), hb, Bool.true_and]
      simp only [List.append_assoc, List.singleton_append]
      rfl
    · rw [if_neg hb, if_pos (by omega), Bool.eq_false_iff.mpr hb, Bool.false_and, if_neg (by simp)]
theorem iAl_ev (L : List (List Int)) (hL : ∀ x ∈ L, x.length ≤ 1048576) (k : Nat) (hk : 20 < k) : impl_AlignLanes.f k L = some (alR L) := by
  unfold impl_AlignLanes.f alR
  rw [iIsWidth_eq]
  simp only [Option.bind_some]
  by_cases h : wdB (L.length : Int) = true
  · obtain ⟨w, hw, hw'⟩ := wdB_nat _ h
    rw [if_pos h]
    have h1 := iAl_l0 L hL (by omega) L.length [] 0 (by omega) rfl k (by omega)
    rw [List.drop_zero, List.nil_append] at h1
    have h2 : ((0 : Nat) : Int) = 0 := rfl
    rw [h2] at h1
    rw [h1]
    by_cases h3 : L.all alB = true
    · rw [if_pos h3, if_pos ⟨h, h3⟩]
    · rw [if_neg h3, if_neg (fun h4 => h3 h4.2)]
  · rw [if_neg h, if_neg (fun h4 => h h4.1)]
theorem alR_facts (L : List (List Int)) (hn : L.length ≤ 1048576) (hL : ∀ x ∈ L, x.length ≤ 1048576) : (alR L).1.length ≤ 1048576 ∧ ∀ x ∈ (alR L).1, SmallE x := by
  unfold alR
  split
  · refine ⟨by rw [List.length_map]; exact hn, fun x hx => ?_⟩
    obtain ⟨y, hy, rfl⟩ := List.mem_map.1 hx
    have := hL y hy
    unfold SmallE cutA
    rw [List.length_drop]
    omega
  · exact ⟨by simp, by simp⟩
theorem FnExactAlignLanes : laws_FnExactAlignLanes.Pure := by
  intro l ⟨hl, hw⟩
  obtain ⟨r, hr, _, hs⟩ := szIntSS_ev l 1048576 (by omega) (by omega) hl (fun x hx => (hw x hx).1)
  refine ⟨4194400, ?_⟩
  unfold laws_FnExactAlignLanes.f
  rw [hr 4194400 (by omega)]
  simp only [Option.bind_some]
  by_cases h : r < 0
  · rw [if_pos h]
  obtain ⟨hn, hE⟩ := hs (by omega)
  obtain ⟨hn2, hE2⟩ := alR_facts l hn hE
  have ht := totL_le 1048576 l hE
  have ht2 := totL_le 1048576 (alR l).1 hE2
  have hm0 := markSS_ev l 1 (by omega) (by omega) hn hE 4194400 (by omega)
  have hm := markSS_ev (alR l).1 1 (by omega) (by omega) hn2 hE2 4194400 (by omega)
  have hh := heldSS_ev (alR l).1 1 (by omega) (by omega) hn2 hE2 4194400 (by omega)
  rw [if_neg h]
  simp only [toIntSS_ev l hn hE 4194400 (by omega), Option.bind_some, sAl_ev l hE 4194400 (by omega), iAl_ev l hE 4194400 (by omega), eqIntSS_ev (alR l).1 (alR l).1 hn2 hE2 4194400 (by omega), eqIntSS_ev l l hn hE 4194400 (by omega), hm0, hm, hh, decide_true, if_true]
  rw [if_pos (by omega), if_pos (by omega), if_pos (by omega)]

end Go.Proofs.Ytoafbbopicbofaa.Pure
