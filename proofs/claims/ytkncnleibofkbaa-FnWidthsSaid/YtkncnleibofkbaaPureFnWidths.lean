/- The statement FnWidths over lists of whole numbers: whatever is drawn, two ports that are led through the three events of training are both active with the width on which they agree. Draws that are longer than the law's own bound are let by, as the law itself does. -/
import Derived.Test.YtkncnleibofkbaaPFnWidthsx6
import Derived.Test.YtkncnleibofkbaaXLists
namespace Go.Proofs.Ytkncnleibofkbaa.Pure
open Go.RowKit Go.Proofs.Ytkncnleibofkbaa.PFnWidths Go.Proofs.YtkncnleibofkbaaW.PrintWords Go.Proofs.YtkncnleibofkbaaW.PrintLast Go.Proofs.YtkncnleibofkbaaW.PrintMore Go.Proofs.YtkncnleibofkbaaX

theorem in_eq (a l m : Int) : spec_l01In.f a l m = some (decide (l ≤ a ∧ a ≤ m)) := by
  unfold spec_l01In.f
  by_cases h : a ≥ l
  · have h' : l ≤ a := h
    rw [if_pos h]; simp [h']
  · have h' : ¬ l ≤ a := h
    rw [if_neg h]; simp [h']
theorem width_eq (a : Int) : ∃ b, spec_IsWidth.f a = some b := by
  unfold spec_IsWidth.f
  repeat' split
  all_goals exact ⟨_, rfl⟩
/-- A valid port or none: the reference answers, and the program answers the same. -/
theorem portOk_both (a b c d : Int) : ∃ r, ∀ k, spec_PortOk.f (k + 1) a b c d = some r ∧ impl_PortOk.f (k + 1) a b c d = some r := by
  have e : ∀ k, impl_PortOk.f (k + 1) a b c d = spec_PortOk.f 1 a b c d := fun _ => rfl
  have e' : ∀ k, spec_PortOk.f (k + 1) a b c d = spec_PortOk.f 1 a b c d := fun _ => rfl
  have h : ∃ r, spec_PortOk.f 1 a b c d = some r := by
    obtain ⟨b1, h1⟩ := width_eq c
    obtain ⟨b2, h2⟩ := width_eq b
    unfold spec_PortOk.f
    rw [in_eq, h1, in_eq]
    simp only [Option.bind_some, spec_PortOk.j0, h2]
    repeat' split
    all_goals exact ⟨_, rfl⟩
  obtain ⟨r, hr⟩ := h
  exact ⟨r, fun k => ⟨(e' k).trans hr, (e k).trans hr⟩⟩

theorem j6_some (x1 x89 a b c d e f g h p q r s) : ∃ z, spec_PortStep.j6 1 x1 x89 a b c d e f g h p q r s = some z := by
  simp only [spec_PortStep.j6]
  repeat' split
  all_goals exact ⟨_, rfl⟩
theorem j5_some (x1 x75 a b c d e f g h p q r s) : ∃ z, spec_PortStep.j5 2 x1 x75 a b c d e f g h p q r s = some z := by
  simp only [spec_PortStep.j5]
  repeat' split
  all_goals first | exact ⟨_, rfl⟩ | exact j6_some ..
theorem j4_some (x1 x66 a b c d e f g h p q r s) : ∃ z, spec_PortStep.j4 3 x1 x66 a b c d e f g h p q r s = some z := by
  simp only [spec_PortStep.j4]
  repeat' split
  all_goals first | exact ⟨_, rfl⟩ | exact j5_some ..
theorem j3_some (x1 x2 x48 a b c d e f g h p q r s) : ∃ z, spec_PortStep.j3 4 x1 x2 x48 a b c d e f g h p q r s = some z := by
  simp only [spec_PortStep.j3]
  repeat' split
  all_goals first | exact ⟨_, rfl⟩ | exact j4_some ..
theorem j2_some (x1 x2 x38 a b c d e f g h p q r s) : ∃ z, spec_PortStep.j2 5 x1 x2 x38 a b c d e f g h p q r s = some z := by
  obtain ⟨w, hw⟩ := width_eq x2
  simp only [spec_PortStep.j2, hw, Option.bind_some]
  repeat' split
  all_goals first | exact ⟨_, rfl⟩ | exact j3_some ..
theorem j1_some (x1 x2 x28 a b c d e f g h p q r s) : ∃ z, spec_PortStep.j1 6 x1 x2 x28 a b c d e f g h p q r s = some z := by
  simp only [spec_PortStep.j1]
  repeat' split
  all_goals first | exact ⟨_, rfl⟩ | exact j2_some ..
theorem j0_some (x1 x2 x19 a b c d e f g h p q r s) : ∃ z, spec_PortStep.j0 7 x1 x2 x19 a b c d e f g h p q r s = some z := by
  simp only [spec_PortStep.j0]
  repeat' split
  all_goals first | exact ⟨_, rfl⟩ | exact j1_some ..
theorem step_some (a b c d x y : Int) : ∃ z, spec_PortStep.f 7 a b c d x y = some z := by
  obtain ⟨r, hr⟩ := portOk_both a b c d
  unfold spec_PortStep.f
  rw [(hr 6).1]
  simp only [Option.bind_some]
  repeat' split
  all_goals first | exact ⟨_, rfl⟩ | exact j0_some ..
theorem step_same (a b c d x y : Int) : impl_PortStep.f 7 a b c d x y = spec_PortStep.f 7 a b c d x y := rfl

/-- An event that is refused leaves the port as it was. -/
theorem j6_no (x1 x89 a b c d e f g h p q r s w0 w1 w2 w3) (H : spec_PortStep.j6 1 x1 x89 a b c d e f g h p q r s = some (w0, w1, w2, w3, false)) : w0 = a ∧ w1 = b ∧ w2 = c ∧ w3 = d := by
  simp only [spec_PortStep.j6] at H
  repeat' split at H
  all_goals simp at H
  all_goals (obtain ⟨rfl, rfl, rfl, rfl⟩ := H; exact ⟨rfl, rfl, rfl, rfl⟩)
theorem j5_no (x1 x89 a b c d e f g h p q r s w0 w1 w2 w3) (H : spec_PortStep.j5 2 x1 x89 a b c d e f g h p q r s = some (w0, w1, w2, w3, false)) : w0 = a ∧ w1 = b ∧ w2 = c ∧ w3 = d := by
  simp only [spec_PortStep.j5] at H
  repeat' split at H
  all_goals first | exact j6_no _ _ _ _ _ _ _ _ _ _ _ _ _ _ _ _ _ _ H | (simp at H; done)
theorem j4_no (x1 x89 a b c d e f g h p q r s w0 w1 w2 w3) (H : spec_PortStep.j4 3 x1 x89 a b c d e f g h p q r s = some (w0, w1, w2, w3, false)) : w0 = a ∧ w1 = b ∧ w2 = c ∧ w3 = d := by
  simp only [spec_PortStep.j4] at H
  repeat' split at H
  all_goals first | exact j5_no _ _ _ _ _ _ _ _ _ _ _ _ _ _ _ _ _ _ H | (simp at H; done)
theorem j3_no (x1 x2 x89 a b c d e f g h p q r s w0 w1 w2 w3) (H : spec_PortStep.j3 4 x1 x2 x89 a b c d e f g h p q r s = some (w0, w1, w2, w3, false)) : w0 = a ∧ w1 = b ∧ w2 = c ∧ w3 = d := by
  simp only [spec_PortStep.j3] at H
  repeat' split at H
  all_goals first | exact j4_no _ _ _ _ _ _ _ _ _ _ _ _ _ _ _ _ _ _ H | (simp at H; done)
theorem j2_no (x1 x2 x89 a b c d e f g h p q r s w0 w1 w2 w3) (H : spec_PortStep.j2 5 x1 x2 x89 a b c d e f g h p q r s = some (w0, w1, w2, w3, false)) : w0 = a ∧ w1 = b ∧ w2 = c ∧ w3 = d := by
  obtain ⟨w, hw⟩ := width_eq x2
  simp only [spec_PortStep.j2, hw, Option.bind_some] at H
  repeat' split at H
  all_goals first | exact j3_no _ _ _ _ _ _ _ _ _ _ _ _ _ _ _ _ _ _ _ H | (simp at H; done)
theorem j1_no (x1 x2 x89 a b c d e f g h p q r s w0 w1 w2 w3) (H : spec_PortStep.j1 6 x1 x2 x89 a b c d e f g h p q r s = some (w0, w1, w2, w3, false)) : w0 = a ∧ w1 = b ∧ w2 = c ∧ w3 = d := by
  simp only [spec_PortStep.j1] at H
  repeat' split at H
  all_goals first | exact j2_no _ _ _ _ _ _ _ _ _ _ _ _ _ _ _ _ _ _ _ H | (simp at H; done)
theorem j0_no (x1 x2 x89 a b c d e f g h p q r s w0 w1 w2 w3) (H : spec_PortStep.j0 7 x1 x2 x89 a b c d e f g h p q r s = some (w0, w1, w2, w3, false)) : w0 = a ∧ w1 = b ∧ w2 = c ∧ w3 = d := by
  simp only [spec_PortStep.j0] at H
  repeat' split at H
  all_goals first | exact j1_no _ _ _ _ _ _ _ _ _ _ _ _ _ _ _ _ _ _ _ H | (simp at H; done)
theorem step_no (a b c d x y w0 w1 w2 w3 : Int) (H : spec_PortStep.f 7 a b c d x y = some (w0, w1, w2, w3, false)) : w0 = a ∧ w1 = b ∧ w2 = c ∧ w3 = d := by
  obtain ⟨r, hr⟩ := portOk_both a b c d
  unfold spec_PortStep.f at H
  rw [(hr 6).1] at H
  simp only [Option.bind_some] at H
  repeat' split at H
  all_goals first | exact j0_no _ _ _ _ _ _ _ _ _ _ _ _ _ _ _ _ _ _ _ H | (simp at H; obtain ⟨rfl, rfl, rfl, rfl⟩ := H; exact ⟨rfl, rfl, rfl, rfl⟩)
/-- One step of both, with rounds enough. -/
theorem step_both (a b c d x y : Int) : ∃ w0 w1 w2 w3 ok, (ok = false → w0 = a ∧ w1 = b ∧ w2 = c ∧ w3 = d) ∧ ∀ k, 7 ≤ k → spec_PortStep.f k a b c d x y = some (w0, w1, w2, w3, ok) ∧ impl_PortStep.f k a b c d x y = some (w0, w1, w2, w3, ok) := by
  obtain ⟨⟨w0, w1, w2, w3, ok⟩, hz⟩ := step_some a b c d x y
  refine ⟨w0, w1, w2, w3, ok, ?_, fun k hk => ⟨at_rounds (spec_PortStep.mono a b c d x y) hk hz, at_rounds (impl_PortStep.mono a b c d x y) hk ((step_same a b c d x y).trans hz)⟩⟩
  rintro rfl
  exact step_no a b c d x y w0 w1 w2 w3 hz
/-- A cursor that has read no more than there is. -/
def CurOk (l : List Int) (i : Int) : Prop := 0 ≤ i ∧ i ≤ l.length ∧ (l.length : Int) ≤ 140737488351232
theorem byte_ok (l : List Int) (i h : Int) (hc : CurOk l i) : ∃ x i' h', spec_l01Byte.f l i h = some (x, i', h') ∧ 0 ≤ x ∧ x ≤ 255 ∧ CurOk l i' := by
  obtain ⟨h0, h1, h2⟩ := hc
  unfold spec_l01Byte.f
  by_cases hi : i < (l.length : Int)
  · rw [if_pos hi, if_pos h0]
    exact ⟨_, _, _, rfl, (and_mask _ 255 (by decide)).1, (and_mask _ 255 (by decide)).2, by rw [wrap_id _ (by omega)]; exact ⟨by omega, by omega, h2⟩⟩
  · rw [if_neg hi]
    exact ⟨_, _, _, rfl, (and_mask _ 255 (by decide)).1, (and_mask _ 255 (by decide)).2, ⟨h0, h1, h2⟩⟩
theorem below_ok (l : List Int) (i h n : Int) (hc : CurOk l i) (hn : 0 < n) : ∃ x i' h', spec_l01Below.f l i h n = some (x, i', h') ∧ 0 ≤ x ∧ x < n ∧ CurOk l i' := by
  unfold spec_l01Below.f
  rw [if_neg (by omega)]
  by_cases hb : n ≤ 256
  · rw [if_pos hb]
    obtain ⟨x, i1, h1, e, hx0, hx1, hc1⟩ := byte_ok l i h hc
    rw [e]
    simp only [Option.bind_some]
    rw [if_neg (by omega)]
    exact ⟨_, _, _, rfl, (tmod_range x n hx0 hn).1, (tmod_range x n hx0 hn).2, hc1⟩
  · rw [if_neg hb]
    obtain ⟨x, i1, h1, e1, hx0, hx1, hc1⟩ := byte_ok l i h hc
    obtain ⟨y, i2, h2, e2, hy0, hy1, hc2⟩ := byte_ok l i1 h1 hc1
    obtain ⟨z, i3, h3, e3, hz0, hz1, hc3⟩ := byte_ok l i2 h2 hc2
    obtain ⟨w, i4, h4, e4, hw0, hw1, hc4⟩ := byte_ok l i3 h3 hc3
    rw [e1]
    simp only [Option.bind_some]
    rw [e2]
    simp only [Option.bind_some]
    rw [e3]
    simp only [Option.bind_some]
    rw [e4]
    simp only [Option.bind_some]
    rw [if_neg (by omega)]
    have hv : 0 ≤ wrap64 ((wrap64 ((wrap64 ((wrap64 (x * 16777216)) + (wrap64 (y * 65536)))) + (wrap64 (z * 256)))) + w) := by
      rw [wrap_id (x * 16777216) (by omega), wrap_id (y * 65536) (by omega), wrap_id (z * 256) (by omega), wrap_id (x * 16777216 + y * 65536) (by omega), wrap_id (x * 16777216 + y * 65536 + z * 256) (by omega), wrap_id _ (by omega)]
      omega
    exact ⟨_, _, _, rfl, (tmod_range _ n hv hn).1, (tmod_range _ n hv hn).2, hc4⟩
theorem pick_ok (l : List Int) (i h : Int) (xs : List Int) (hc : CurOk l i) (hx : 0 < xs.length) : ∃ x i' h', spec_l01PickInt.f l i h xs = some (x, i', h') ∧ x ∈ xs ∧ CurOk l i' := by
  unfold spec_l01PickInt.f
  obtain ⟨q, i1, h1, e, h0, h2, hc1⟩ := below_ok l i h (xs.length : Int) hc (by omega)
  rw [e]
  simp only [Option.bind_some]
  rw [if_pos h0, if_pos h2]
  obtain ⟨m, rfl⟩ := Int.eq_ofNat_of_zero_le h0
  refine ⟨_, _, _, rfl, ?_, hc1⟩
  rw [rd_lt xs m (by omega)]
  exact List.getElem_mem _
theorem new_l0 (l : List Int) (d : Nat) : ∀ (i : Nat) (h : Int), i + d = 4000 → ∃ h', ∀ k, d < k → spec_l01New.l0 k l h (i : Int) = some (l, 0, h') := by
  induction d with
  | zero =>
    intro i h hi
    refine ⟨h, fun k hk => ?_⟩
    obtain ⟨k, rfl⟩ : ∃ m, k = m + 1 := ⟨k - 1, by omega⟩
    simp only [spec_l01New.l0]
    by_cases hlt : (i : Int) < (l.length : Int)
    · rw [if_pos hlt, if_neg (by omega)]
    · rw [if_neg hlt]
  | succ d ih =>
    intro i h hi
    by_cases hlt : (i : Int) < (l.length : Int)
    · obtain ⟨h', hh⟩ := ih (i + 1) (Go.bits .and .i64 (wrap64 ((wrap64 ((wrap64 (h * 131)) + (wrap64 (rd l i)))) + 7)) 1073741823) (by omega)
      refine ⟨h', fun k hk => ?_⟩
      obtain ⟨k, rfl⟩ : ∃ m, k = m + 1 := ⟨k - 1, by omega⟩
      simp only [spec_l01New.l0]
      rw [if_pos hlt, if_pos (show (i : Int) < 4000 by omega), if_pos (by omega), wrap_succ i (by omega)]
      exact hh k (by omega)
    · refine ⟨h, fun k hk => ?_⟩
      obtain ⟨k, rfl⟩ : ∃ m, k = m + 1 := ⟨k - 1, by omega⟩
      simp only [spec_l01New.l0]
      rw [if_neg hlt]
theorem new_ok (l : List Int) : ∃ h', ∀ k, 4000 < k → spec_l01New.f k l = some (l, 0, h') := by
  unfold spec_l01New.f
  exact new_l0 l 4000 0 _ (by omega)
theorem places_l0 (l : List Int) (d : Nat) : ∀ (n : Nat) (xs : List Int) (i h : Int), n + d = 12 → xs.length = n → (∀ x ∈ xs, 0 ≤ x ∧ x < 10000) → CurOk l i → ∃ ys, ys.length = 12 ∧ (∀ x ∈ ys, 0 ≤ x ∧ x < 10000) ∧ ∀ k, d < k → spec_DrawPlaces.l0 k xs (n : Int) l i h = some ys := by
  induction d with
  | zero =>
    intro n xs i h hn hx hr hc
    refine ⟨xs, by omega, hr, fun k hk => ?_⟩
    obtain ⟨k, rfl⟩ : ∃ m, k = m + 1 := ⟨k - 1, by omega⟩
    simp only [spec_DrawPlaces.l0]
    rw [if_neg (by omega)]
  | succ d ih =>
    intro n xs i h hn hx hr hc
    obtain ⟨x, i1, h1, e, hx0, hx1, hc1⟩ := below_ok l i h 10000 hc (by omega)
    obtain ⟨ys, hy1, hy2, hy3⟩ := ih (n + 1) (xs ++ [x]) i1 h1 (by omega) (by simp [hx]) (by
      intro z hz
      rcases List.mem_append.1 hz with hz | hz
      · exact hr z hz
      · rw [List.mem_singleton.1 hz]; exact ⟨hx0, hx1⟩) hc1
    refine ⟨ys, hy1, hy2, fun k hk => ?_⟩
    obtain ⟨k, rfl⟩ : ∃ m, k = m + 1 := ⟨k - 1, by omega⟩
    simp only [spec_DrawPlaces.l0]
    rw [if_pos (by omega), e]
    simp only [Option.bind_some]
    rw [if_pos (by omega), wrap_succ n (by omega)]
    exact hy3 k (by omega)
theorem places_ok (l : List Int) (hl : (l.length : Int) ≤ 140737488351232) : ∃ ys : List Int, ys.length = 12 ∧ (∀ x ∈ ys, 0 ≤ x ∧ x < 10000) ∧ ∀ k, 4000 < k → spec_DrawPlaces.f k l = some ys := by
  obtain ⟨h, hn⟩ := new_ok l
  obtain ⟨ys, h1, h2, h3⟩ := places_l0 l 12 0 [] 0 h (by omega) rfl (by simp) ⟨by omega, by omega, hl⟩
  refine ⟨ys, h1, h2, fun k hk => ?_⟩
  unfold spec_DrawPlaces.f
  rw [hn k hk]
  simp only [Option.bind_some]
  exact h3 k (by omega)
/-- No event turns what a port offers. -/
theorem j6_offer (x1 x89 a b c d e f h p q s w0 w1 w2 w3 ok) (H : spec_PortStep.j6 1 x1 x89 a b c d e f c h p q c s = some (w0, w1, w2, w3, ok)) : w2 = c := by
  simp only [spec_PortStep.j6] at H
  repeat' split at H
  all_goals (simp at H; obtain ⟨_, _, rfl, _⟩ := H; rfl)
theorem j5_offer (x1 x89 a b c d e f h p q s w0 w1 w2 w3 ok) (H : spec_PortStep.j5 2 x1 x89 a b c d e f c h p q c s = some (w0, w1, w2, w3, ok)) : w2 = c := by
  simp only [spec_PortStep.j5] at H
  repeat' split at H
  all_goals first | exact j6_offer _ _ _ _ _ _ _ _ _ _ _ _ _ _ _ _ _ H | (simp at H; obtain ⟨_, _, rfl, _⟩ := H; rfl)
theorem j4_offer (x1 x89 a b c d e f h p q s w0 w1 w2 w3 ok) (H : spec_PortStep.j4 3 x1 x89 a b c d e f c h p q c s = some (w0, w1, w2, w3, ok)) : w2 = c := by
  simp only [spec_PortStep.j4] at H
  repeat' split at H
  all_goals first | exact j5_offer _ _ _ _ _ _ _ _ _ _ _ _ _ _ _ _ _ H | (simp at H; obtain ⟨_, _, rfl, _⟩ := H; rfl)
theorem j3_offer (x1 x2 x89 a b c d e f h p q s w0 w1 w2 w3 ok) (H : spec_PortStep.j3 4 x1 x2 x89 a b c d e f c h p q c s = some (w0, w1, w2, w3, ok)) : w2 = c := by
  simp only [spec_PortStep.j3] at H
  repeat' split at H
  all_goals first | exact j4_offer _ _ _ _ _ _ _ _ _ _ _ _ _ _ _ _ _ H | (simp at H; obtain ⟨_, _, rfl, _⟩ := H; rfl)
theorem j2_offer (x1 x2 x89 a b c d e f h p q s w0 w1 w2 w3 ok) (H : spec_PortStep.j2 5 x1 x2 x89 a b c d e f c h p q c s = some (w0, w1, w2, w3, ok)) : w2 = c := by
  obtain ⟨w, hw⟩ := width_eq x2
  simp only [spec_PortStep.j2, hw, Option.bind_some] at H
  repeat' split at H
  all_goals first | exact j3_offer _ _ _ _ _ _ _ _ _ _ _ _ _ _ _ _ _ _ H | (simp at H; obtain ⟨_, _, rfl, _⟩ := H; rfl)
theorem j1_offer (x1 x2 x89 a b c d e f h p q s w0 w1 w2 w3 ok) (H : spec_PortStep.j1 6 x1 x2 x89 a b c d e f c h p q c s = some (w0, w1, w2, w3, ok)) : w2 = c := by
  simp only [spec_PortStep.j1] at H
  repeat' split at H
  all_goals first | exact j2_offer _ _ _ _ _ _ _ _ _ _ _ _ _ _ _ _ _ _ H | (simp at H; obtain ⟨_, _, rfl, _⟩ := H; rfl)
theorem j0_offer (x1 x2 x89 a b c d e f h p q s w0 w1 w2 w3 ok) (H : spec_PortStep.j0 7 x1 x2 x89 a b c d e f c h p q c s = some (w0, w1, w2, w3, ok)) : w2 = c := by
  simp only [spec_PortStep.j0] at H
  repeat' split at H
  all_goals first | exact j1_offer _ _ _ _ _ _ _ _ _ _ _ _ _ _ _ _ _ _ H | (simp at H; obtain ⟨_, _, rfl, _⟩ := H; rfl)
theorem step_offer (a b c d x y w0 w1 w2 w3 : Int) (ok : Bool) (H : spec_PortStep.f 7 a b c d x y = some (w0, w1, w2, w3, ok)) : w2 = c := by
  obtain ⟨r, hr⟩ := portOk_both a b c d
  unfold spec_PortStep.f at H
  rw [(hr 6).1] at H
  simp only [Option.bind_some] at H
  repeat' split at H
  all_goals first | exact j0_offer _ _ _ _ _ _ _ _ _ _ _ _ _ _ _ _ _ _ H | (simp at H; obtain ⟨_, _, rfl, _⟩ := H; rfl)
/-- The reference's run over events keeps what the port offers. -/
theorem srun_ok (l : List Int) (y : Int) (hb : l.length ≤ 1048576) (n : Nat) : ∀ (i c : Nat) (p q r s : Int), i + n = l.length → c ≤ i →
    ∃ w0 w1 w3 w4, ∀ k, n + 7 < k → spec_PortRun.l0 k l y (c : Int) (i : Int) p q r s = some (w0, w1, r, w3, w4) := by
  induction n with
  | zero =>
    intro i c p q r s hi hc
    refine ⟨p, q, s, (c : Int), fun k hk => ?_⟩
    obtain ⟨k, rfl⟩ : ∃ m, k = m + 1 := ⟨k - 1, by omega⟩
    simp only [spec_PortRun.l0]
    rw [if_neg (show ¬ (i : Int) < (l.length : Int) by omega)]
  | succ n ih =>
    intro i c p q r s hi hc
    obtain ⟨⟨w0, w1, w2, w3, ok⟩, hz⟩ := step_some p q r s (rd l i) y
    have hw := step_offer p q r s (rd l i) y w0 w1 w2 w3 ok hz
    subst hw
    have hlt : (i : Int) < (l.length : Int) := by omega
    have h0 : (0 : Int) ≤ (i : Int) := by omega
    cases ok with
    | true =>
      obtain ⟨z0, z1, z3, z4, hz'⟩ := ih (i + 1) (c + 1) w0 w1 w2 w3 (by omega) (by omega)
      refine ⟨z0, z1, z3, z4, fun k hk => ?_⟩
      obtain ⟨k, rfl⟩ : ∃ m, k = m + 1 := ⟨k - 1, by omega⟩
      simp only [spec_PortRun.l0]
      rw [if_pos hlt, if_pos h0, at_rounds (spec_PortStep.mono p q w2 s (rd l i) y) (show 7 ≤ k by omega) hz]
      simp only [Option.bind_some, if_true]
      rw [wrap_succ i (by omega), wrap_succ c (by omega)]
      exact hz' k (by omega)
    | false =>
      obtain ⟨z0, z1, z3, z4, hz'⟩ := ih (i + 1) c w0 w1 w2 w3 (by omega) (by omega)
      refine ⟨z0, z1, z3, z4, fun k hk => ?_⟩
      obtain ⟨k, rfl⟩ : ∃ m, k = m + 1 := ⟨k - 1, by omega⟩
      simp only [spec_PortRun.l0]
      rw [if_pos hlt, if_pos h0, at_rounds (spec_PortStep.mono p q w2 s (rd l i) y) (show 7 ≤ k by omega) hz]
      simp only [Option.bind_some]
      rw [if_neg (by decide), wrap_succ i (by omega)]
      exact hz' k (by omega)
theorem events_l0 (l : List Int) (d : Nat) : ∀ (n : Nat) (xs : List Int) (i h : Int), n + d = 10 → xs.length = n → CurOk l i → ∃ ys : List Int, ∃ i' h', ys.length ≤ 10 ∧ CurOk l i' ∧ ∀ k, d < k → spec_l13Events.l0 k xs (n : Int) l i h = some (ys, i', h') := by
  induction d with
  | zero =>
    intro n xs i h hn hx hc
    obtain ⟨x, i1, h1, e, hx0, hx1, hc1⟩ := below_ok l i h 10 hc (by omega)
    refine ⟨xs, i1, h1, by omega, hc1, fun k hk => ?_⟩
    obtain ⟨k, rfl⟩ : ∃ m, k = m + 1 := ⟨k - 1, by omega⟩
    simp only [spec_l13Events.l0]
    rw [e]
    simp only [Option.bind_some]
    rw [if_neg (by omega)]
  | succ d ih =>
    intro n xs i h hn hx hc
    obtain ⟨x, i1, h1, e, hx0, hx1, hc1⟩ := below_ok l i h 10 hc (by omega)
    by_cases hlt : (n : Int) < x
    · obtain ⟨z, i2, h2, e2, _, hc2⟩ := pick_ok l i1 h1 [0, 1, 2, 0, 1, 2, 3, 4, 5, 6, 6] hc1 (by decide)
      obtain ⟨ys, i', h', hy, hc', hk'⟩ := ih (n + 1) (xs ++ [z]) i2 h2 (by omega) (by simp [hx]) hc2
      refine ⟨ys, i', h', hy, hc', fun k hk => ?_⟩
      obtain ⟨k, rfl⟩ : ∃ m, k = m + 1 := ⟨k - 1, by omega⟩
      simp only [spec_l13Events.l0]
      rw [e]
      simp only [Option.bind_some]
      rw [if_pos hlt, e2]
      simp only [Option.bind_some]
      rw [if_pos (by omega), wrap_succ n (by omega)]
      exact hk' k (by omega)
    · refine ⟨xs, i1, h1, by omega, hc1, fun k hk => ?_⟩
      obtain ⟨k, rfl⟩ : ∃ m, k = m + 1 := ⟨k - 1, by omega⟩
      simp only [spec_l13Events.l0]
      rw [e]
      simp only [Option.bind_some]
      rw [if_neg hlt]
/-- A drawn port: what it offers is a width. -/
theorem drawPort_ok (l : List Int) (hl : (l.length : Int) ≤ 140737488351232) : ∃ p q r s, (r = 1 ∨ r = 2 ∨ r = 4) ∧ ∀ k, 5000 < k → spec_DrawPort.f k l = some (p, q, r, s) := by
  obtain ⟨h, hn⟩ := new_ok l
  obtain ⟨o, i1, h1, e1, ho, hc1⟩ := pick_ok l 0 h [1, 2, 4] ⟨by omega, by omega, hl⟩ (by decide)
  obtain ⟨ev, i2, h2, hev, hc2, he⟩ := events_l0 l 10 0 [] i1 h1 (by omega) rfl hc1
  obtain ⟨y, i3, h3, e3, _, _⟩ := pick_ok l i2 h2 [1, 2, 4] hc2 (by decide)
  obtain ⟨w0, w1, w3, w4, hr⟩ := srun_ok ev y (by omega) ev.length 0 0 0 0 o 0 (by omega) (by omega)
  refine ⟨w0, w1, o, w3, by simpa using ho, fun k hk => ?_⟩
  unfold spec_DrawPort.f spec_l13Port.f spec_l13Events.f spec_PortRun.f
  rw [hn k (by omega)]
  simp only [Option.bind_some]
  rw [e1]
  simp only [Option.bind_some]
  have c0 : ((0 : Nat) : Int) = 0 := rfl
  rw [c0] at he hr
  rw [he k (by omega)]
  simp only [Option.bind_some]
  rw [e3]
  simp only [Option.bind_some]
  rw [hr k (by omega)]
  rfl

theorem train_table : ∀ a ∈ ([1, 2, 4] : List Int), ∀ b ∈ ([1, 2, 4] : List Int), impl_PortRun.f 12 0 0 a 0 [0, 1, 2] b = some (3, mn a b, a, 0, 3) ∧ impl_AgreedWidth.f 12 0 0 a 0 0 0 b 0 = some (mn a b) ∧ 0 < mn a b := by
  intro a ha b hb
  simp only [List.mem_cons, List.not_mem_nil, or_false] at ha hb
  rcases ha with rfl | rfl | rfl <;> rcases hb with rfl | rfl | rfl <;> exact ⟨by decide +kernel, by decide +kernel, by decide⟩
theorem agree_swap : ∀ a ∈ ([1, 2, 4] : List Int), ∀ b ∈ ([1, 2, 4] : List Int), impl_AgreedWidth.f 12 0 0 a 0 0 0 b 0 = impl_AgreedWidth.f 12 0 0 b 0 0 0 a 0 := by
  intro a ha b hb
  simp only [List.mem_cons, List.not_mem_nil, or_false] at ha hb
  rcases ha with rfl | rfl | rfl <;> rcases hb with rfl | rfl | rfl <;> decide +kernel

theorem FnWidths : laws_FnWidths.Pure := by
  intro l _ hl _
  by_cases hb : (l.length : Int) > 1048576
  · refine ⟨1, ?_⟩
    unfold laws_FnWidths.f laws_big.f
    rw [decide_eq_true hb]
    simp
  obtain ⟨p, q, r, s, hr, hp⟩ := drawPort_ok l (by omega)
  obtain ⟨ys, hy1, hy2, hy3⟩ := places_ok l (by omega)
  have hy0 := hy2 ys[0] (List.getElem_mem _)
  have hrd : rd ys 0 = ys[0] := rd_lt ys 0 (by omega)
  obtain ⟨t0, t1⟩ := tmod_range ys[0] 3 hy0.1 (by omega)
  have hw : rd [1, 2, 4] (Int.tmod ys[0] 3) ∈ ([1, 2, 4] : List Int) := by
    obtain ⟨m, hm⟩ := Int.eq_ofNat_of_zero_le t0
    rw [hm, rd_lt [1, 2, 4] m (by simp; omega)]
    exact List.getElem_mem _
  have hr' : r ∈ ([1, 2, 4] : List Int) := by simpa using hr
  obtain ⟨a1, a2, a3⟩ := train_table r hr' _ hw
  obtain ⟨b1, b2, b3⟩ := train_table _ hw r hr'
  rw [agree_swap _ hw r hr', a2] at b2
  have b2 := Option.some.inj b2
  rw [← b2] at b1
  refine ⟨5001, ?_⟩
  unfold laws_FnWidths.f laws_big.f
  rw [decide_eq_false hb]
  simp only [Option.bind_some, Bool.false_eq_true, if_false]
  rw [hp 5001 (by omega)]
  simp only [Option.bind_some]
  rw [hy3 5001 (by omega)]
  simp only [Option.bind_some]
  rw [if_pos (by omega), hrd, if_pos t0, if_pos (by simpa using t1), at_rounds (impl_PortRun.mono 0 0 r 0 _ _) (show 12 ≤ 5001 by omega) a1]
  simp only [Option.bind_some]
  rw [at_rounds (impl_PortRun.mono 0 0 _ 0 _ _) (show 12 ≤ 5001 by omega) b1]
  simp only [Option.bind_some]
  rw [at_rounds (impl_AgreedWidth.mono 0 0 r 0 0 0 _ 0) (show 12 ≤ 5001 by omega) a2]
  simp [a3]

end Go.Proofs.Ytkncnleibofkbaa.Pure
