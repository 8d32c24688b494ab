/- The statement FnExactScrambleBytes over lists of whole numbers: the program and the reference scramble alike, and the program's answer shares no memory with its argument or with the answer of another call. Lists longer than the law's own bound are let by, as the law itself does. -/
import Derived.Test.YtbmhdlgpglbdnaaPFnExactScrambleBytesx3
import Derived.Test.YtbmhdlgpglbdnaaXLists
namespace Go.Proofs.Ytbmhdlgpglbdnaa.Pure
open Go.RowKit Go.Proofs.Ytbmhdlgpglbdnaa.PFnExactScrambleBytes Go.Proofs.YtbmhdlgpglbdnaaW.PrintWords Go.Proofs.YtbmhdlgpglbdnaaW.PrintLast Go.Proofs.YtbmhdlgpglbdnaaW.PrintMore Go.Proofs.YtbmhdlgpglbdnaaX

theorem within_eq (a l m : Int) : impl_within.f a l m = some (decide (l ≤ a ∧ a ≤ m)) := by
  unfold impl_within.f
  by_cases h : a ≥ l
  · have h' : l ≤ a := h
    rw [if_pos h]; simp [h']
  · have h' : ¬ l ≤ a := h
    rw [if_neg h]; simp [h']
theorem l01In_eq (a l m : Int) : spec_l01In.f a l m = some (decide (l ≤ a ∧ a ≤ m)) := by
  unfold spec_l01In.f
  by_cases h : a ≥ l
  · have h' : l ≤ a := h
    rw [if_pos h]; simp [h']
  · have h' : ¬ l ≤ a := h
    rw [if_neg h]; simp [h']
def byteB (x : Int) : Bool := decide (0 ≤ x ∧ x ≤ 255)
def bytesB (l : List Int) : Bool := l.all byteB && decide (l.length ≤ 40)
theorem sAreBytes_l0 (l : List (Int)) (hl : l.length ≤ 1048576) (d : Nat) : ∀ i : Nat, i + d = l.length → ∀ k, 0 + d < k → spec_AreBytes.l0 k l (i : Int) = some ((l.drop i).all byteB && decide (l.length ≤ 40)) := by
  induction d with
  | zero =>
    intro i hi k hk
    obtain ⟨k, rfl⟩ : ∃ m, k = m + 1 := ⟨k - 1, by omega⟩
    simp only [spec_AreBytes.l0]
    rw [if_neg (show ¬ (i : Int) < (l.length : Int) by omega), drop_all l i (by omega)]
    simp; omega
  | succ d ih =>
    intro i hi k hk
    obtain ⟨k, rfl⟩ : ∃ m, k = m + 1 := ⟨k - 1, by omega⟩
    have hlt : i < l.length := by omega
    simp only [spec_AreBytes.l0]
    rw [if_pos (show (i : Int) < (l.length : Int) by omega), if_pos (show (0 : Int) ≤ (i : Int) by omega), rd_lt l i hlt, show spec_l01In.f l[i] 0 255 = some (byteB l[i]) from l01In_eq _ _ _]
    simp only [Option.bind_some]
    by_cases hp : byteB l[i] = true
    · rw [if_pos hp, wrap_succ i (by omega), ih (i + 1) (by omega) k (by omega), drop_cons l i hlt, List.all_cons, hp, Bool.true_and]
    · rw [if_neg hp, drop_cons l i hlt, List.all_cons, Bool.eq_false_iff.mpr hp, Bool.false_and, Bool.false_and]
theorem sAreBytes_ev (l : List Int) (hl : l.length ≤ 1048576) (k : Nat) (hk : l.length < k) : spec_AreBytes.f k l = some (bytesB l) := sAreBytes_l0 l hl l.length 0 (by omega) k (by omega)
theorem notByte_eq (x : Int) : impl_AreBytes_1.f x = some (!byteB x) := by
  unfold impl_AreBytes_1.f impl_isByte.f
  rw [within_eq]
  rfl
theorem cBytes_l0 (l : List (Int)) (hl : l.length ≤ 1048576) (d : Nat) : ∀ i : Nat, i + d = l.length → ∀ k, 0 + d < k → ∃ r, slices_IndexFunc_int_int__impl_AreBytes_1.l0 k l (l.length : Int) (i : Int) = some r ∧ decide (r ≥ 0) = (l.drop i).any (fun x => !byteB x) := by
  induction d with
  | zero =>
    intro i hi k hk
    obtain ⟨k, rfl⟩ : ∃ m, k = m + 1 := ⟨k - 1, by omega⟩
    refine ⟨-1, ?_, ?_⟩
    · simp only [slices_IndexFunc_int_int__impl_AreBytes_1.l0]
      rw [if_neg (show ¬ (i : Int) < (l.length : Int) by omega)]
    · rw [drop_all l i (by omega)]; rfl
  | succ d ih =>
    intro i hi k hk
    obtain ⟨k, rfl⟩ : ∃ m, k = m + 1 := ⟨k - 1, by omega⟩
    have hlt : i < l.length := by omega
    simp only [slices_IndexFunc_int_int__impl_AreBytes_1.l0]
    rw [if_pos (show (i : Int) < (l.length : Int) by omega), if_pos (show (0 : Int) ≤ (i : Int) by omega), if_pos (show (i : Int) < (l.length : Int) by omega), rd_lt l i hlt, notByte_eq l[i]]
    simp only [Option.bind_some]
    by_cases hp : (fun x => !byteB x) l[i] = true
    · rw [if_pos hp]
      exact ⟨_, rfl, by rw [any_drop_yes l i hlt _ hp, decide_eq_true (by omega)]⟩
    · rw [if_neg hp, wrap_succ i (by omega)]
      obtain ⟨r, h1, h2⟩ := ih (i + 1) (by omega) k (by omega)
      exact ⟨r, h1, by rw [h2, any_drop_no l i hlt _ hp]⟩
theorem cBytes_ev (l : List (Int)) (hl : l.length ≤ 1048576) (k : Nat) (hk : 0 + l.length < k) : slices_ContainsFunc_int_int__impl_AreBytes_1.f k l = some (l.any (fun x => !byteB x)) := by
  obtain ⟨r, h1, h2⟩ := cBytes_l0 l hl l.length 0 (by omega) k hk
  unfold slices_ContainsFunc_int_int__impl_AreBytes_1.f slices_IndexFunc_int_int__impl_AreBytes_1.f
  have c0 : ((0 : Nat) : Int) = 0 := rfl
  rw [c0] at h1
  rw [h1]
  simp only [Option.bind_some]
  rw [h2]; rfl
theorem any_not {α : Type} (l : List α) (p : α → Bool) : (!l.any fun x => !p x) = l.all p := by
  induction l with
  | nil => rfl
  | cons a l ih => rw [List.any_cons, List.all_cons, Bool.not_or, ih, Bool.not_not]
theorem iAreBytes_ev (l : List Int) (k : Nat) (hk : 40 < k) : impl_AreBytes.f k l = some (bytesB l) := by
  unfold impl_AreBytes.f bytesB
  by_cases h : (l.length : Int) ≤ 40
  · rw [if_pos h, cBytes_ev l (by omega) k (by omega)]
    simp only [Option.bind_some]
    rw [any_not, decide_eq_true (show l.length ≤ 40 by omega), Bool.and_true]
  · rw [if_neg h, decide_eq_false (show ¬ l.length ≤ 40 by omega), Bool.and_false]
theorem toIntS_l0 (l : List Int) (hb : l.length ≤ 1048576) (d : Nat) : ∀ (x : List Int) (i : Nat), x.length = l.length → x.take i = l.take i → i + d = l.length → ∀ k, d < k → laws_toIntS.l0 k l x (i : Int) = some l := by
  induction d with
  | zero =>
    intro x i hx ht hi k hk
    obtain ⟨k, rfl⟩ : ∃ m, k = m + 1 := ⟨k - 1, by omega⟩
    simp only [laws_toIntS.l0]
    rw [if_neg (show ¬ (i : Int) < (l.length : Int) by omega), fill_end x l i hx (by omega) ht]
  | succ d ih =>
    intro x i hx ht hi k hk
    obtain ⟨k, rfl⟩ : ∃ m, k = m + 1 := ⟨k - 1, by omega⟩
    simp only [laws_toIntS.l0]
    rw [if_pos (show (i : Int) < (l.length : Int) by omega), if_pos (show (0 : Int) ≤ (i : Int) by omega), if_pos (show (i : Int) < (x.length : Int) by omega), wrap_succ i (by omega), toNat_nat, rd_lt l i (by omega)]
    exact ih _ (i + 1) (by simp [hx]) (fill_step x l i _ (by omega) (by omega) ht rfl) (by omega) k (by omega)
theorem toIntS_ev (l : List Int) (hb : l.length ≤ 1048576) : ∀ k, l.length < k → laws_toIntS.f k l = some l := by
  intro k hk
  unfold laws_toIntS.f
  rw [if_pos (by omega), if_pos (by omega)]
  exact toIntS_l0 l hb l.length _ 0 (by simp) (by simp) (by omega) k hk
theorem eqIntS_l0 (a b : List Int) (hl : a.length = b.length) (hb : a.length < 9223372036854775807) (d : Nat) : ∀ (i : Nat), i + d = a.length → ∀ k, d < k → laws_eqIntS.l0 k a b (i : Int) = some (decide (a.drop i = b.drop i)) := by
  induction d with
  | zero =>
    intro i hi k hk
    obtain ⟨k, rfl⟩ : ∃ m, k = m + 1 := ⟨k - 1, by omega⟩
    simp only [laws_eqIntS.l0]
    rw [if_neg (show ¬ (i : Int) < (a.length : Int) by omega), drop_all a i (by omega), drop_all b i (by omega)]
    simp
  | succ d ih =>
    intro i hi k hk
    obtain ⟨k, rfl⟩ : ∃ m, k = m + 1 := ⟨k - 1, by omega⟩
    simp only [laws_eqIntS.l0]
    rw [if_pos (show (i : Int) < (a.length : Int) by omega), if_pos (show (0 : Int) ≤ (i : Int) by omega), if_pos (show (i : Int) < (b.length : Int) by omega)]
    by_cases he : rd a (i : Int) = rd b (i : Int)
    · rw [if_pos he, wrap_succ i (by omega), ih (i + 1) (by omega) k (by omega)]
      congr 1
      rw [decide_eq_decide, drop_eq_iff a b i (by omega) (by omega)]
      exact ⟨fun h => ⟨he, h⟩, fun h => h.2⟩
    · rw [if_neg he]
      congr 1
      symm
      rw [decide_eq_false_iff_not, drop_eq_iff a b i (by omega) (by omega)]
      exact fun h => he h.1
theorem eqIntS_ev (a b : List Int) (hb : a.length < 9223372036854775807) : ∀ k, a.length < k → laws_eqIntS.f k a b = some (decide (a = b)) := by
  intro k hk
  unfold laws_eqIntS.f
  by_cases hl : a.length = b.length
  · rw [if_pos (by omega)]
    exact eqIntS_l0 a b hl hb a.length 0 (by omega) k hk
  · rw [if_neg (by omega), decide_eq_false (fun h => hl (by rw [h]))]
/-- The numbers s, s + 1, .. -/
def markL (n : Nat) (s : Int) : List Int := (List.range n).map fun (i : Nat) => s + (i : Int)
theorem markL_length (n : Nat) (s : Int) : (markL n s).length = n := by simp [markL]
theorem markL_get (n : Nat) (s : Int) (i : Nat) (h : i < (markL n s).length) : (markL n s)[i] = s + (i : Int) := by simp [markL]
theorem markIntS_l0 (n : Nat) (s : Int) (hn : n ≤ 1048576) (h0 : 0 ≤ s) (h1 : s ≤ 1000000000000) (d : Nat) : ∀ (x : List Int) (i : Nat), x.length = n → x.take i = (markL n s).take i → i + d = n → ∀ k, d < k → laws_markIntS.l0 k x (s + (i : Int)) (i : Int) = some (s + (n : Int), markL n s) := by
  induction d with
  | zero =>
    intro x i hx ht hi k hk
    obtain ⟨k, rfl⟩ : ∃ m, k = m + 1 := ⟨k - 1, by omega⟩
    simp only [laws_markIntS.l0]
    have hlen := markL_length n s
    rw [if_neg (show ¬ (i : Int) < (x.length : Int) by omega), fill_end x (markL n s) i (by omega) (by omega) ht, show i = n by omega]
  | succ d ih =>
    intro x i hx ht hi k hk
    obtain ⟨k, rfl⟩ : ∃ m, k = m + 1 := ⟨k - 1, by omega⟩
    have hlen := markL_length n s
    simp only [laws_markIntS.l0]
    rw [if_pos (show (i : Int) < (x.length : Int) by omega), if_pos (show (0 : Int) ≤ (i : Int) by omega), wrap_succ i (by omega), toNat_nat, wrap_id (s + (i : Int) + 1) (by omega)]
    have e : s + (i : Int) + 1 = s + ((i + 1 : Nat) : Int) := by omega
    rw [e]
    exact ih _ (i + 1) (by simp [hx]) (fill_step x (markL n s) i _ (by omega) (by omega) ht (markL_get n s i (by omega)).symm) (by omega) k (by omega)
theorem markIntS_ev (l : List Int) (s : Int) (hn : l.length ≤ 1048576) (h0 : 0 ≤ s) (h1 : s ≤ 1000000000000) (k : Nat) (hk : l.length < k) : laws_markIntS.f k l s = some (s + (l.length : Int), markL l.length s) := by
  unfold laws_markIntS.f
  have h := markIntS_l0 l.length s hn h0 h1 l.length l 0 rfl (by simp) (by omega) k hk
  simpa using h
theorem heldIntS_l0 (n : Nat) (s : Int) (hn : n ≤ 1048576) (h0 : 0 ≤ s) (h1 : s ≤ 1000000000000) (d : Nat) : ∀ (i : Nat), i + d = n → ∀ k, d < k → laws_heldIntS.l0 k (markL n s) (s + (i : Int)) (i : Int) = some (s + (n : Int)) := by
  have hlen := markL_length n s
  induction d with
  | zero =>
    intro i hi k hk
    obtain ⟨k, rfl⟩ : ∃ m, k = m + 1 := ⟨k - 1, by omega⟩
    simp only [laws_heldIntS.l0]
    rw [if_neg (show ¬ (i : Int) < ((markL n s).length : Int) by omega), show i = n by omega]
  | succ d ih =>
    intro i hi k hk
    obtain ⟨k, rfl⟩ : ∃ m, k = m + 1 := ⟨k - 1, by omega⟩
    simp only [laws_heldIntS.l0]
    rw [if_pos (show (i : Int) < ((markL n s).length : Int) by omega), if_pos (show (0 : Int) ≤ (i : Int) by omega), rd_lt _ i (by omega), markL_get n s i (by omega), if_pos rfl, wrap_succ i (by omega), wrap_id (s + (i : Int) + 1) (by omega)]
    have e : s + (i : Int) + 1 = s + ((i + 1 : Nat) : Int) := by omega
    rw [e]
    exact ih (i + 1) (by omega) k (by omega)
theorem heldIntS_ev (n : Nat) (s : Int) (hn : n ≤ 1048576) (h0 : 0 ≤ s) (h1 : s ≤ 1000000000000) (k : Nat) (hk : n < k) : laws_heldIntS.f k (markL n s) s = some (s + (n : Int)) := by
  unfold laws_heldIntS.f
  have h := heldIntS_l0 n s hn h0 h1 n 0 (by omega) k hk
  simpa using h
theorem step_table : ∀ n : Nat, n < 256 → 1 ≤ n → (∃ m : Fin 256, 1 ≤ m.val ∧ spec_NextState.f (n : Int) = some (m.val : Int) ∧ impl_NextState.f (n : Int) = some (m.val : Int)) := by decide +kernel
theorem step_same (x : Int) (h : 1 ≤ x ∧ x ≤ 255) : ∃ y, (1 ≤ y ∧ y ≤ 255) ∧ spec_NextState.f x = some y ∧ impl_NextState.f x = some y := by
  obtain ⟨n, rfl⟩ := Int.eq_ofNat_of_zero_le (show 0 ≤ x by omega)
  obtain ⟨m, h1, h2, h3⟩ := step_table n (by omega) (by omega)
  exact ⟨m.val, ⟨by omega, by omega⟩, h2, h3⟩
theorem scramble_l0 (l : List Int) (hl : l.length ≤ 40) (d : Nat) : ∀ (out : List Int) (i : Nat) (s : Int), 1 ≤ s ∧ s ≤ 255 → out.length = i → i + d = l.length →
    ∃ r : List Int, r.length = l.length ∧ ∀ k, d < k → spec_ScrambleBytes.l0 k l out s (i : Int) = some r ∧ impl_ScrambleBytes.l0 k s out l (l.length : Int) (i : Int) = some r := by
  induction d with
  | zero =>
    intro out i s hs ho hi
    refine ⟨out, by omega, fun k hk => ?_⟩
    obtain ⟨k, rfl⟩ : ∃ m, k = m + 1 := ⟨k - 1, by omega⟩
    simp only [spec_ScrambleBytes.l0, impl_ScrambleBytes.l0]
    have hlt : ¬ (i : Int) < (l.length : Int) := by omega
    rw [if_neg hlt, if_neg hlt]
    exact ⟨rfl, rfl⟩
  | succ d ih =>
    intro out i s hs ho hi
    obtain ⟨y, hy, h1, h2⟩ := step_same s hs
    obtain ⟨r, hr, hk'⟩ := ih (out ++ [Go.bits .xor .i64 (rd l i) s]) (i + 1) y hy (by simp [ho]) (by omega)
    refine ⟨r, hr, fun k hk => ?_⟩
    obtain ⟨k, rfl⟩ : ∃ m, k = m + 1 := ⟨k - 1, by omega⟩
    simp only [spec_ScrambleBytes.l0, impl_ScrambleBytes.l0]
    have hlt : (i : Int) < (l.length : Int) := by omega
    have hz : (0 : Int) ≤ (i : Int) := by omega
    have hm : out.length < 17592186044416 := by omega
    rw [if_pos hlt, if_pos hlt, if_pos hlt, if_pos hz, if_pos hz, if_pos hm, if_pos hm, h1, h2]
    simp only [Option.bind_some]
    rw [wrap_succ i (by omega)]
    exact hk' k (by omega)
theorem scramble_both (s : Int) (l : List Int) (hl : l.length ≤ 1048576) : ∃ r : List Int, r.length ≤ 40 ∧ ∀ k, 1048580 < k → spec_ScrambleBytes.f k s l = some r ∧ impl_ScrambleBytes.f k s l = some r := by
  by_cases hs : 1 ≤ s ∧ s ≤ 255
  · by_cases hb : bytesB l = true
    · have h40 : l.length ≤ 40 := by unfold bytesB at hb; simp at hb; exact hb.2
      obtain ⟨r, hr, hk'⟩ := scramble_l0 l h40 l.length [] 0 s hs rfl (by omega)
      refine ⟨r, by omega, fun k hk => ?_⟩
      obtain ⟨h1, h2⟩ := hk' (k - 1) (by omega)
      obtain ⟨k, rfl⟩ : ∃ m, k = m + 1 := ⟨k - 1, by omega⟩
      rw [Nat.add_sub_cancel] at h1 h2
      unfold spec_ScrambleBytes.f impl_ScrambleBytes.f impl_isState.f
      rw [l01In_eq, within_eq, decide_eq_true hs, sAreBytes_ev l hl _ (by omega), iAreBytes_ev l _ (by omega), hb]
      simp only [Option.bind_some, if_true, Bool.not_true, spec_ScrambleBytes.j0, impl_ScrambleBytes.j0]
      rw [if_neg (by decide), if_neg (by decide)]
      exact ⟨h1, h2⟩
    · refine ⟨[], by simp, fun k hk => ?_⟩
      obtain ⟨k, rfl⟩ : ∃ m, k = m + 1 := ⟨k - 1, by omega⟩
      unfold spec_ScrambleBytes.f impl_ScrambleBytes.f impl_isState.f
      rw [l01In_eq, within_eq, decide_eq_true hs, sAreBytes_ev l hl _ (by omega), iAreBytes_ev l _ (by omega), Bool.eq_false_iff.mpr hb]
      simp [spec_ScrambleBytes.j0, impl_ScrambleBytes.j0]
  · refine ⟨[], by simp, fun k hk => ?_⟩
    obtain ⟨k, rfl⟩ : ∃ m, k = m + 1 := ⟨k - 1, by omega⟩
    unfold spec_ScrambleBytes.f impl_ScrambleBytes.f impl_isState.f
    rw [l01In_eq, within_eq, decide_eq_false hs]
    simp [spec_ScrambleBytes.j0, impl_ScrambleBytes.j0]
theorem FnExactScrambleBytes : laws_FnExactScrambleBytes.Pure := by
  intro s l _ _ _ _
  by_cases hb : (l.length : Int) > 1048576
  · exact ⟨1, by unfold laws_FnExactScrambleBytes.f; rw [if_pos hb]⟩
  have hl : l.length ≤ 1048576 := by omega
  obtain ⟨r, hr, hk⟩ := scramble_both s l hl
  have h1 : ∀ k, 1048580 < k → spec_ScrambleBytes.f k s l = some r := fun k h => (hk k h).1
  have h2 : ∀ k, 1048580 < k → impl_ScrambleBytes.f k s l = some r := fun k h => (hk k h).2
  have hrr : ∀ k, 1048580 < k → laws_eqIntS.f k r r = some true := fun k h => by rw [eqIntS_ev r r (by omega) k (by omega)]; simp
  refine ⟨1048590, ?_⟩
  unfold laws_FnExactScrambleBytes.f
  rw [if_neg hb, toIntS_ev l hl _ (by omega)]
  simp only [Option.bind_some]
  rw [h1 _ (by omega)]
  simp only [Option.bind_some]
  rw [h2 _ (by omega)]
  simp only [Option.bind_some]
  rw [hrr _ (by omega)]
  simp only [Option.bind_some, if_true]
  rw [eqIntS_ev l l (by omega) _ (by omega)]
  simp only [Option.bind_some, decide_true, if_true]
  rw [markIntS_ev l 1 hl (by omega) (by omega) _ (by omega)]
  simp only [Option.bind_some]
  rw [if_neg (by omega)]
  simp only [Bool.not_true, laws_FnExactScrambleBytes.j0]
  rw [if_neg (by decide), markIntS_ev r 1 (by omega) (by omega) (by omega) _ (by omega)]
  simp only [Option.bind_some]
  rw [heldIntS_ev r.length 1 (by omega) (by omega) (by omega) _ (by omega)]
  simp only [Option.bind_some]
  rw [if_neg (by omega), if_pos trivial, toIntS_ev l hl _ (by omega)]
  simp only [Option.bind_some]
  rw [h2 _ (by omega)]
  simp only [Option.bind_some]
  rw [hrr _ (by omega)]
  simp only [Option.bind_some, if_true]
  rw [if_neg (by omega)]

end Go.Proofs.Ytbmhdlgpglbdnaa.Pure
