/- The statement FnExactNewChannel over whole numbers and lists of such: the program and the reference answer alike, neither changes what it is given, and the program's answer shares no memory with its arguments or with the answer of another call. What is larger than the law's own bound is let by, as the law itself does. -/
import Derived.Test.YtbdehpmfemgooaaPFnExactNewChannelx7
import Derived.Test.YtbdehpmfemgooaaNCLists
namespace Go.Proofs.Ytbdehpmfemgooaa.Pure
set_option linter.unusedVariables false
set_option linter.unusedSimpArgs false
open Go.RowKit Go.Proofs.Ytbdehpmfemgooaa.PFnExactNewChannel Go.Proofs.YtbdehpmfemgooaaW.PrintWords Go.Proofs.YtbdehpmfemgooaaW.PrintLast Go.Proofs.YtbdehpmfemgooaaW.PrintMore Go.Proofs.YtbdehpmfemgooaaX

theorem within_eq (a l m : Int) : impl_within.f a l m = some (decide (l ≤ a ∧ a ≤ m)) := by
  unfold impl_within.f
  by_cases h : a ≥ l
  · have h' : l ≤ a := h
    rw [if_pos h]; simp [h']
  · have h' : ¬ l ≤ a := h
    rw [if_neg h]; simp [h']
theorem l01In_eq (a l m : Int) : spec_l01In.f a l m = some (decide (l ≤ a ∧ a ≤ m)) := by
  unfold spec_l01In.f
  by_cases h : a ≥ l
  · have h' : l ≤ a := h
    rw [if_pos h]; simp [h']
  · have h' : ¬ l ≤ a := h
    rw [if_neg h]; simp [h']
theorem any_not {α : Type} (l : List α) (p : α → Bool) : (!l.any fun x => !p x) = l.all p := by
  induction l with
  | nil => rfl
  | cons a l ih => rw [List.any_cons, List.all_cons, Bool.not_or, ih, Bool.not_not]
theorem szIntS_eq (l : List Int) (left : Int) (h0 : 0 ≤ left) (h1 : left ≤ 1048576) (hl : l.length ≤ 9223372036854775807) : laws_szIntS.f l left = some (if left < l.length then -1 else left - l.length) := by
  unfold laws_szIntS.f
  rw [wrap_id _ (by omega)]
  by_cases h : left < l.length
  · rw [if_pos (by omega), if_pos h]
  · rw [if_neg (by omega), if_neg h]
/-- What is left behind a pair of credits: less than nothing, or the room that both take. -/
theorem szCredits_eq (a b : List Int) (left : Int) (h0 : 0 ≤ left) (h1 : left ≤ 1048576) (ha : a.length ≤ 9223372036854775807) (hb : b.length ≤ 9223372036854775807) :
    ∃ r, laws_szCredits.f a b left = some r ∧ (0 ≤ r → r = left - a.length - b.length) := by
  unfold laws_szCredits.f
  rw [szIntS_eq a left h0 h1 ha]
  simp only [Option.bind_some]
  by_cases hx : left < a.length
  · rw [if_pos hx, if_pos (by omega)]
    exact ⟨_, rfl, fun h => by omega⟩
  · rw [if_neg hx, if_neg (by omega), szIntS_eq b _ (by omega) (by omega) hb]
    simp only [Option.bind_some]
    by_cases hy : left - a.length < b.length
    · rw [if_pos hy, if_pos (by omega)]
      exact ⟨_, rfl, fun h => by omega⟩
    · rw [if_neg hy, if_neg (by omega)]
      exact ⟨_, rfl, fun _ => rfl⟩
theorem toIntS_l0 (l : List Int) (hb : l.length ≤ 1048576) (d : Nat) : ∀ (x : List Int) (i : Nat), x.length = l.length → x.take i = l.take i → i + d = l.length → ∀ k, d < k → laws_toIntS.l0 k l x (i : Int) = some l := by
  induction d with
  | zero =>
    intro x i hx ht hi k hk
    obtain ⟨k, rfl⟩ : ∃ m, k = m + 1 := ⟨k - 1, by omega⟩
    simp only [laws_toIntS.l0]
    rw [if_neg (show ¬ (i : Int) < (l.length : Int) by omega), fill_end x l i hx (by omega) ht]
  | succ d ih =>
    intro x i hx ht hi k hk
    obtain ⟨k, rfl⟩ : ∃ m, k = m + 1 := ⟨k - 1, by omega⟩
    simp only [laws_toIntS.l0]
    rw [if_pos (show (i : Int) < (l.length : Int) by omega), if_pos (show (0 : Int) ≤ (i : Int) by omega), if_pos (show (i : Int) < (x.length : Int) by omega), wrap_succ i (by omega), toNat_nat, rd_lt l i (by omega)]
    exact ih _ (i + 1) (by simp [hx]) (fill_step x l i _ (by omega) (by omega) ht rfl) (by omega) k (by omega)
theorem toIntS_ev (l : List Int) (hb : l.length ≤ 1048576) : ∀ k, l.length < k → laws_toIntS.f k l = some l := by
  intro k hk
  unfold laws_toIntS.f
  rw [if_pos (by omega), if_pos (by omega)]
  exact toIntS_l0 l hb l.length _ 0 (by simp) (by simp) (by omega) k hk
theorem eqIntS_l0 (a b : List Int) (hl : a.length = b.length) (hb : a.length < 9223372036854775807) (d : Nat) : ∀ (i : Nat), i + d = a.length → ∀ k, d < k → laws_eqIntS.l0 k a b (i : Int) = some (decide (a.drop i = b.drop i)) := by
  induction d with
  | zero =>
    intro i hi k hk
    obtain ⟨k, rfl⟩ : ∃ m, k = m + 1 := ⟨k - 1, by omega⟩
    simp only [laws_eqIntS.l0]
    rw [if_neg (show ¬ (i : Int) < (a.length : Int) by omega), drop_all a i (by omega), drop_all b i (by omega)]
    simp
  | succ d ih =>
    intro i hi k hk
    obtain ⟨k, rfl⟩ : ∃ m, k = m + 1 := ⟨k - 1, by omega⟩
    simp only [laws_eqIntS.l0]
    rw [if_pos (show (i : Int) < (a.length : Int) by omega), if_pos (show (0 : Int) ≤ (i : Int) by omega), if_pos (show (i : Int) < (b.length : Int) by omega)]
    by_cases he : rd a (i : Int) = rd b (i : Int)
    · rw [if_pos he, wrap_succ i (by omega), ih (i + 1) (by omega) k (by omega)]
      congr 1
      rw [decide_eq_decide, drop_eq_iff a b i (by omega) (by omega)]
      exact ⟨fun h => ⟨he, h⟩, fun h => h.2⟩
    · rw [if_neg he]
      congr 1
      symm
      rw [decide_eq_false_iff_not, drop_eq_iff a b i (by omega) (by omega)]
      exact fun h => he h.1
theorem eqIntS_ev (a b : List Int) (hb : a.length < 9223372036854775807) : ∀ k, a.length < k → laws_eqIntS.f k a b = some (decide (a = b)) := by
  intro k hk
  unfold laws_eqIntS.f
  by_cases hl : a.length = b.length
  · rw [if_pos (by omega)]
    exact eqIntS_l0 a b hl hb a.length 0 (by omega) k hk
  · rw [if_neg (by omega), decide_eq_false (fun h => hl (by rw [h]))]
def credB (x : Int) : Bool := decide (0 ≤ x ∧ x ≤ 30)
def areCr (l : List Int) : Bool := decide (l.length = 3) && l.all credB
def crB (a b : List Int) : Bool := areCr a && areCr b
theorem notCred_eq (x : Int) : impl_areCredits_1.f x = some (!credB x) := by
  unfold impl_areCredits_1.f
  rw [within_eq]
  rfl
theorem cCred_l0 (l : List (Int)) (hl : l.length ≤ 1048576) (d : Nat) : ∀ i : Nat, i + d = l.length → ∀ k, 0 + d < k → ∃ r, slices_IndexFunc_int_int__impl_areCredits_1.l0 k l (l.length : Int) (i : Int) = some r ∧ decide (r ≥ 0) = (l.drop i).any (fun x => !credB x) := by
  induction d with
  | zero =>
    intro i hi k hk
    obtain ⟨k, rfl⟩ : ∃ m, k = m + 1 := ⟨k - 1, by omega⟩
    refine ⟨-1, ?_, ?_⟩
    · simp only [slices_IndexFunc_int_int__impl_areCredits_1.l0]
      rw [if_neg (show ¬ (i : Int) < (l.length : Int) by omega)]
    · rw [drop_all l i (by omega)]; rfl
  | succ d ih =>
    intro i hi k hk
    obtain ⟨k, rfl⟩ : ∃ m, k = m + 1 := ⟨k - 1, by omega⟩
    have hlt : i < l.length := by omega
    simp only [slices_IndexFunc_int_int__impl_areCredits_1.l0]
    rw [if_pos (show (i : Int) < (l.length : Int) by omega), if_pos (show (0 : Int) ≤ (i : Int) by omega), if_pos (show (i : Int) < (l.length : Int) by omega), rd_lt l i hlt, notCred_eq l[i]]
    simp only [Option.bind_some]
    by_cases hp : (fun x => !credB x) l[i] = true
    · rw [if_pos hp]
      exact ⟨_, rfl, by rw [any_drop_yes l i hlt _ hp, decide_eq_true (by omega)]⟩
    · rw [if_neg hp, wrap_succ i (by omega)]
      obtain ⟨r, h1, h2⟩ := ih (i + 1) (by omega) k (by omega)
      exact ⟨r, h1, by rw [h2, any_drop_no l i hlt _ hp]⟩
theorem cCred_ev (l : List (Int)) (hl : l.length ≤ 1048576) (k : Nat) (hk : 0 + l.length < k) : slices_ContainsFunc_int_int__impl_areCredits_1.f k l = some (l.any (fun x => !credB x)) := by
  obtain ⟨r, h1, h2⟩ := cCred_l0 l hl l.length 0 (by omega) k hk
  unfold slices_ContainsFunc_int_int__impl_areCredits_1.f slices_IndexFunc_int_int__impl_areCredits_1.f
  have c0 : ((0 : Nat) : Int) = 0 := rfl
  rw [c0] at h1
  rw [h1]
  simp only [Option.bind_some]
  rw [h2]; rfl
theorem iAreCredits_ev (l : List Int) (k : Nat) (hk : 3 < k) : impl_areCredits.f k l = some (areCr l) := by
  unfold impl_areCredits.f areCr
  by_cases h : (l.length : Int) = 3
  · rw [if_pos h, cCred_ev l (by omega) k (by omega)]
    simp only [Option.bind_some]
    rw [any_not, decide_eq_true (show l.length = 3 by omega), Bool.true_and]
  · rw [if_neg h, decide_eq_false (show ¬ l.length = 3 by omega), Bool.false_and]
theorem iCreditsOk_ev (a b : List Int) (k : Nat) (hk : 3 < k) : impl_CreditsOk.f k a b = some (crB a b) := by
  unfold impl_CreditsOk.f crB
  rw [iAreCredits_ev a k hk, iAreCredits_ev b k hk]
  cases areCr a <;> simp
theorem three {l : List Int} (h : l.length = 3) : ∃ x y z, l = [x, y, z] := by
  match l, h with
  | [x, y, z], _ => exact ⟨x, y, z, rfl⟩
theorem sCreditsOk_ev (a b : List Int) (k : Nat) (hk : 5 < k) : spec_CreditsOk.f k a b = some (crB a b) := by
  obtain ⟨k, rfl⟩ : ∃ m, k = m + 5 := ⟨k - 5, by omega⟩
  unfold spec_CreditsOk.f crB areCr
  by_cases ha : a.length = 3
  · by_cases hb : b.length = 3
    · obtain ⟨x, y, z, rfl⟩ := three ha
      obtain ⟨u, v, w, rfl⟩ := three hb
      have r0 : ∀ p q r : Int, rd [p, q, r] 0 = p := fun _ _ _ => rfl
      have r1 : ∀ p q r : Int, rd [p, q, r] 1 = q := fun _ _ _ => rfl
      have r2 : ∀ p q r : Int, rd [p, q, r] 2 = r := fun _ _ _ => rfl
      have w0 : wrap64 (0 + 1) = 1 := by rw [wrap_id _ (by omega)]; rfl
      have w1 : wrap64 (1 + 1) = 2 := by rw [wrap_id _ (by omega)]; rfl
      have w2 : wrap64 (2 + 1) = 3 := by rw [wrap_id _ (by omega)]; rfl
      have e : ∀ t : Int, spec_l01In.f t 0 30 = some (credB t) := fun t => l01In_eq _ _ _
      simp only [spec_CreditsOk.j0, spec_CreditsOk.l0, r0, r1, r2, w0, w1, w2, e, Option.bind_some, List.length_cons, List.length_nil, List.all_cons, List.all_nil]
      cases credB x <;> cases credB y <;> cases credB z <;> cases credB u <;> cases credB v <;> cases credB w <;> simp
    · rw [if_pos (by omega), decide_eq_false hb]
      simp only [spec_CreditsOk.j0]
      rw [if_pos (by simp; omega)]
      simp
  · rw [if_neg (by omega), decide_eq_false ha]
    simp [spec_CreditsOk.j0]
theorem toCredits_ev (a b : List Int) (ha : a.length ≤ 1048576) (hb : b.length ≤ 1048576) (k : Nat) (hk : 1048576 < k) : laws_toCredits.f k a b = some (a, b) := by
  unfold laws_toCredits.f
  rw [toIntS_ev a ha k (by omega), toIntS_ev b hb k (by omega)]
  rfl
theorem eqCredits_ev (a b : List Int) (ha : a.length ≤ 1048576) (hb : b.length ≤ 1048576) (k : Nat) (hk : 1048576 < k) : laws_eqCredits.f k a b a b = some true := by
  unfold laws_eqCredits.f
  rw [eqIntS_ev a a (by omega) k (by omega), eqIntS_ev b b (by omega) k (by omega)]
  simp
/-- The numbers s, s + 1, .. -/
def markL (n : Nat) (s : Int) : List Int := (List.range n).map fun (i : Nat) => s + (i : Int)
theorem markL_length (n : Nat) (s : Int) : (markL n s).length = n := by simp [markL]
theorem markL_get (n : Nat) (s : Int) (i : Nat) (h : i < (markL n s).length) : (markL n s)[i] = s + (i : Int) := by simp [markL]
theorem markIntS_l0 (n : Nat) (s : Int) (hn : n ≤ 1048576) (h0 : 0 ≤ s) (h1 : s ≤ 1000000000000) (d : Nat) : ∀ (x : List Int) (i : Nat), x.length = n → x.take i = (markL n s).take i → i + d = n → ∀ k, d < k → laws_markIntS.l0 k x (s + (i : Int)) (i : Int) = some (s + (n : Int), markL n s) := by
  induction d with
  | zero =>
    intro x i hx ht hi k hk
    obtain ⟨k, rfl⟩ : ∃ m, k = m + 1 := ⟨k - 1, by omega⟩
    simp only [laws_markIntS.l0]
    have hlen := markL_length n s
    rw [if_neg (show ¬ (i : Int) < (x.length : Int) by omega), fill_end x (markL n s) i (by omega) (by omega) ht, show i = n by omega]
  | succ d ih =>
    intro x i hx ht hi k hk
    obtain ⟨k, rfl⟩ : ∃ m, k = m + 1 := ⟨k - 1, by omega⟩
    have hlen := markL_length n s
    simp only [laws_markIntS.l0]
    rw [if_pos (show (i : Int) < (x.length : Int) by omega), if_pos (show (0 : Int) ≤ (i : Int) by omega), wrap_succ i (by omega), toNat_nat, wrap_id (s + (i : Int) + 1) (by omega)]
    have e : s + (i : Int) + 1 = s + ((i + 1 : Nat) : Int) := by omega
    rw [e]
    exact ih _ (i + 1) (by simp [hx]) (fill_step x (markL n s) i _ (by omega) (by omega) ht (markL_get n s i (by omega)).symm) (by omega) k (by omega)
theorem markIntS_ev (l : List Int) (s : Int) (hn : l.length ≤ 1048576) (h0 : 0 ≤ s) (h1 : s ≤ 1000000000000) (k : Nat) (hk : l.length < k) : laws_markIntS.f k l s = some (s + (l.length : Int), markL l.length s) := by
  unfold laws_markIntS.f
  have h := markIntS_l0 l.length s hn h0 h1 l.length l 0 rfl (by simp) (by omega) k hk
  simpa using h
theorem heldIntS_l0 (n : Nat) (s : Int) (hn : n ≤ 1048576) (h0 : 0 ≤ s) (h1 : s ≤ 1000000000000) (d : Nat) : ∀ (i : Nat), i + d = n → ∀ k, d < k → laws_heldIntS.l0 k (markL n s) (s + (i : Int)) (i : Int) = some (s + (n : Int)) := by
  have hlen := markL_length n s
  induction d with
  | zero =>
    intro i hi k hk
    obtain ⟨k, rfl⟩ : ∃ m, k = m + 1 := ⟨k - 1, by omega⟩
    simp only [laws_heldIntS.l0]
    rw [if_neg (show ¬ (i : Int) < ((markL n s).length : Int) by omega), show i = n by omega]
  | succ d ih =>
    intro i hi k hk
    obtain ⟨k, rfl⟩ : ∃ m, k = m + 1 := ⟨k - 1, by omega⟩
    simp only [laws_heldIntS.l0]
    rw [if_pos (show (i : Int) < ((markL n s).length : Int) by omega), if_pos (show (0 : Int) ≤ (i : Int) by omega), rd_lt _ i (by omega), markL_get n s i (by omega), if_pos rfl, wrap_succ i (by omega), wrap_id (s + (i : Int) + 1) (by omega)]
    have e : s + (i : Int) + 1 = s + ((i + 1 : Nat) : Int) := by omega
    rw [e]
    exact ih (i + 1) (by omega) k (by omega)
theorem heldIntS_ev (n : Nat) (s : Int) (hn : n ≤ 1048576) (h0 : 0 ≤ s) (h1 : s ≤ 1000000000000) (k : Nat) (hk : n < k) : laws_heldIntS.f k (markL n s) s = some (s + (n : Int)) := by
  unfold laws_heldIntS.f
  have h := heldIntS_l0 n s hn h0 h1 n 0 (by omega) k hk
  simpa using h
theorem clone_ev (l : List Int) (hl : l.length ≤ 1048580) : slices_Clone_int_int.f l = some l := by
  unfold slices_Clone_int_int.f
  simp only [Option.bind_some, List.nil_append, List.length_nil]
  rw [if_pos (by omega)]
theorem copy_ev (x y : List Int) (hx : x.length ≤ 1048576) (hy : y.length ≤ 1048576) : impl_copyCredits.f x y = some (x, y) := by
  unfold impl_copyCredits.f
  rw [clone_ev x (by omega), clone_ev y (by omega)]
  rfl
theorem scopy_ev (x y : List Int) (hx : x.length ≤ 1048576) (hy : y.length ≤ 1048576) : spec_l14Copy.f x y = some (x, y) := by
  unfold spec_l14Copy.f
  simp only [Option.bind_some, List.nil_append, List.length_nil]
  rw [if_pos (by omega), if_pos (by omega)]
theorem eqPS_nil (k : Nat) (hk : 1 < k) : laws_eqPacketS.f k [] [] = some true := by
  obtain ⟨k, rfl⟩ : ∃ m, k = m + 1 := ⟨k - 1, by omega⟩
  unfold laws_eqPacketS.f
  simp [laws_eqPacketS.l0]
theorem heldPS_nil (a : Int) (k : Nat) (hk : 1 < k) : laws_heldPacketS.f k [] a = some a := by
  obtain ⟨k, rfl⟩ : ∃ m, k = m + 1 := ⟨k - 1, by omega⟩
  unfold laws_heldPacketS.f
  simp [laws_heldPacketS.l0]
theorem eqCh_ev (x y u v : List Int) (hx : x.length ≤ 1048576) (hy : y.length ≤ 1048576) (hu : u.length ≤ 1048576) (hv : v.length ≤ 1048576) (k : Nat) (hk : 1048600 < k) : laws_eqChannel.f k x y u v [] [] x y u v [] [] = some true := by
  unfold laws_eqChannel.f
  rw [eqCredits_ev x y hx hy k (by omega), eqCredits_ev u v hu hv k (by omega), eqPS_nil k (by omega)]
  simp
theorem markCr_ev (x y : List Int) (s : Int) (h0 : 0 ≤ s) (h1 : s ≤ 100000000) (hx : x.length ≤ 1048576) (hy : y.length ≤ 1048576) (k : Nat) (hk : 1048600 < k) : laws_markCredits.f k x y s = some (s + (x.length : Int) + (y.length : Int), markL x.length s, markL y.length (s + (x.length : Int))) := by
  unfold laws_markCredits.f
  rw [markIntS_ev x s hx (by omega) (by omega) k (by omega)]
  simp only [Option.bind_some]
  rw [markIntS_ev y _ hy (by omega) (by omega) k (by omega)]
  rfl
theorem heldCr_ev (n m : Nat) (s : Int) (h0 : 0 ≤ s) (h1 : s ≤ 100000000) (hx : n ≤ 1048576) (hy : m ≤ 1048576) (k : Nat) (hk : 1048600 < k) : laws_heldCredits.f k (markL n s) (markL m (s + (n : Int))) s = some (s + (n : Int) + (m : Int)) := by
  unfold laws_heldCredits.f
  rw [heldIntS_ev n s hx (by omega) (by omega) k (by omega)]
  simp only [Option.bind_some]
  rw [if_neg (by omega), heldIntS_ev m _ hy (by omega) (by omega) k (by omega)]
  simp only [Option.bind_some]
  rw [if_neg (by omega)]
theorem markCh_ev (x y u v : List Int) (hx : x.length ≤ 1048576) (hy : y.length ≤ 1048576) (hu : u.length ≤ 1048576) (hv : v.length ≤ 1048576) (k : Nat) (hk : 1048600 < k) : laws_markChannel.f k x y u v [] [] 1 = some (1 + (x.length : Int) + (y.length : Int) + (u.length : Int) + (v.length : Int), markL x.length 1, markL y.length (1 + (x.length : Int)), markL u.length (1 + (x.length : Int) + (y.length : Int)), markL v.length (1 + (x.length : Int) + (y.length : Int) + (u.length : Int))) := by
  unfold laws_markChannel.f laws_markPacketS.f
  rw [markCr_ev x y 1 (by omega) (by omega) hx hy k (by omega)]
  simp only [Option.bind_some]
  rw [markCr_ev u v _ (by omega) (by omega) hu hv k (by omega)]
  rfl
theorem heldCh_ev (n m p q : Nat) (hx : n ≤ 1048576) (hy : m ≤ 1048576) (hu : p ≤ 1048576) (hv : q ≤ 1048576) (k : Nat) (hk : 1048600 < k) : laws_heldChannel.f k (markL n 1) (markL m (1 + (n : Int))) (markL p (1 + (n : Int) + (m : Int))) (markL q (1 + (n : Int) + (m : Int) + (p : Int))) [] [] 1 = some (1 + (n : Int) + (m : Int) + (p : Int) + (q : Int)) := by
  unfold laws_heldChannel.f
  rw [heldCr_ev n m 1 (by omega) (by omega) hx hy k (by omega)]
  simp only [Option.bind_some]
  rw [if_neg (by omega), heldCr_ev p q _ (by omega) (by omega) hu hv k (by omega)]
  simp only [Option.bind_some]
  rw [if_neg (by omega), heldPS_nil _ k (by omega)]
  simp only [Option.bind_some]
  rw [if_neg (by omega), heldPS_nil _ k (by omega)]
  simp only [Option.bind_some]
  rw [if_neg (by omega)]
def ncR (x y : List Int) : List Int × List Int × Bool := if crB x y = true then (x, y, true) else ([], [], false)
theorem sNew_ev (x y : List Int) (hx : x.length ≤ 1048576) (hy : y.length ≤ 1048576) (k : Nat) (hk : 1048600 < k) : spec_NewChannel.f k x y = some ((ncR x y).1, (ncR x y).2.1, (ncR x y).1, (ncR x y).2.1, [], [], (ncR x y).2.2) := by
  unfold spec_NewChannel.f ncR
  rw [sCreditsOk_ev x y k (by omega)]
  simp only [Option.bind_some]
  by_cases h : crB x y = true
  · rw [if_pos h, if_pos h, scopy_ev x y hx hy]; rfl
  · rw [if_neg h, if_neg h]
theorem iNew_ev (x y : List Int) (hx : x.length ≤ 1048576) (hy : y.length ≤ 1048576) (k : Nat) (hk : 1048600 < k) : impl_NewChannel.f k x y = some ((ncR x y).1, (ncR x y).2.1, (ncR x y).1, (ncR x y).2.1, [], [], (ncR x y).2.2) := by
  unfold impl_NewChannel.f ncR
  rw [iCreditsOk_ev x y k (by omega)]
  simp only [Option.bind_some]
  by_cases h : crB x y = true
  · rw [if_pos h, if_pos h, copy_ev x y hx hy]; rfl
  · rw [if_neg h, if_neg h]
theorem FnExactNewChannel : laws_FnExactNewChannel.Pure := by
  intro x y ⟨hxm, _⟩ ⟨hym, _⟩
  obtain ⟨r, e0, hr⟩ := szCredits_eq x y 1048576 (by omega) (by omega) hxm hym
  by_cases h0 : r < 0
  · exact ⟨1, by unfold laws_FnExactNewChannel.f; rw [e0]; simp only [Option.bind_some]; rw [if_pos h0]⟩
  have hr := hr (by omega)
  have hx : x.length ≤ 1048576 := by omega
  have hy : y.length ≤ 1048576 := by omega
  obtain ⟨u, v, ok, hR⟩ : ∃ u v ok, ncR x y = (u, v, ok) := ⟨_, _, _, rfl⟩
  have hlen : u.length ≤ 1048576 ∧ v.length ≤ 1048576 := by
    unfold ncR at hR
    by_cases h : crB x y = true
    · rw [if_pos h] at hR; cases hR; exact ⟨hx, hy⟩
    · rw [if_neg h] at hR; cases hR; exact ⟨by simp, by simp⟩
  obtain ⟨hu, hv⟩ := hlen
  have hs : ∀ k, 1048700 < k → spec_NewChannel.f k x y = some (u, v, u, v, [], [], ok) := fun k h => by rw [sNew_ev x y hx hy k (by omega), hR]
  have hi : ∀ k, 1048700 < k → impl_NewChannel.f k x y = some (u, v, u, v, [], [], ok) := fun k h => by rw [iNew_ev x y hx hy k (by omega), hR]
  have hto : ∀ k, 1048700 < k → laws_toCredits.f k x y = some (x, y) := fun k h => toCredits_ev x y hx hy k (by omega)
  have hec : ∀ k, 1048700 < k → laws_eqChannel.f k u v u v [] [] u v u v [] [] = some true := fun k h => eqCh_ev u v u v hu hv hu hv k (by omega)
  have hexy : ∀ k, 1048700 < k → laws_eqCredits.f k x y x y = some true := fun k h => eqCredits_ev x y hx hy k (by omega)
  have hne : (ok != ok) = false := by cases ok <;> rfl
  refine ⟨1048800, ?_⟩
  unfold laws_FnExactNewChannel.f
  rw [e0]
  simp only [Option.bind_some]
  rw [if_neg h0, hto _ (by omega)]
  simp only [Option.bind_some]
  rw [hs _ (by omega)]
  simp only [Option.bind_some]
  rw [hi _ (by omega)]
  simp only [Option.bind_some]
  rw [hec _ (by omega)]
  simp only [Option.bind_some, if_true, hne, laws_FnExactNewChannel.j0, Bool.false_eq_true, if_false]
  rw [hto _ (by omega)]
  simp only [Option.bind_some]
  rw [hexy _ (by omega)]
  simp only [Option.bind_some, if_true]
  rw [markCr_ev x y 1 (by omega) (by omega) hx hy _ (by omega)]
  simp only [Option.bind_some]
  rw [if_neg (by omega), hec _ (by omega)]
  simp only [Option.bind_some, if_true, hne, laws_FnExactNewChannel.j1, Bool.false_eq_true, if_false]
  rw [markCh_ev u v u v hu hv hu hv _ (by omega)]
  simp only [Option.bind_some]
  rw [heldCh_ev u.length v.length u.length v.length hu hv hu hv _ (by omega)]
  simp only [Option.bind_some, if_true]
  rw [if_neg (by omega), hto _ (by omega)]
  simp only [Option.bind_some]
  rw [hi _ (by omega)]
  simp only [Option.bind_some]
  rw [hec _ (by omega)]
  simp only [Option.bind_some, if_true, hne, laws_FnExactNewChannel.j2, Bool.false_eq_true, if_false]
  rw [heldCh_ev u.length v.length u.length v.length hu hv hu hv _ (by omega)]
  simp only [Option.bind_some, if_true]
  rw [if_neg (by omega)]

end Go.Proofs.Ytbdehpmfemgooaa.Pure
