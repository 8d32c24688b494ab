/- The statement FnExactPortRun over lists of whole numbers: from every port, over every list of events (up to the law's own bound) and for every width of the other side the program and the reference come to the same port and the same count. -/
import Derived.Test.YtkncnleibofkbaaPFnExactPortRunx6
import Derived.Test.YtkncnleibofkbaaXLists
namespace Go.Proofs.Ytkncnleibofkbaa.Pure
open Go.RowKit Go.Proofs.Ytkncnleibofkbaa.PFnExactPortRun Go.Proofs.YtkncnleibofkbaaW.PrintWords Go.Proofs.YtkncnleibofkbaaW.PrintLast Go.Proofs.YtkncnleibofkbaaW.PrintMore Go.Proofs.YtkncnleibofkbaaX

theorem in_eq (a l m : Int) : spec_l01In.f a l m = some (decide (l ≤ a ∧ a ≤ m)) := by
  unfold spec_l01In.f
  by_cases h : a ≥ l
  · have h' : l ≤ a := h
    rw [if_pos h]; simp [h']
  · have h' : ¬ l ≤ a := h
    rw [if_neg h]; simp [h']
theorem width_eq (a : Int) : ∃ b, spec_IsWidth.f a = some b := by
  unfold spec_IsWidth.f
  repeat' split
  all_goals exact ⟨_, rfl⟩
/-- A valid port or none: the reference answers, and the program answers the same. -/
theorem portOk_both (a b c d : Int) : ∃ r, ∀ k, spec_PortOk.f (k + 1) a b c d = some r ∧ impl_PortOk.f (k + 1) a b c d = some r := by
  have e : ∀ k, impl_PortOk.f (k + 1) a b c d = spec_PortOk.f 1 a b c d := fun _ => rfl
  have e' : ∀ k, spec_PortOk.f (k + 1) a b c d = spec_PortOk.f 1 a b c d := fun _ => rfl
  have h : ∃ r, spec_PortOk.f 1 a b c d = some r := by
    obtain ⟨b1, h1⟩ := width_eq c
    obtain ⟨b2, h2⟩ := width_eq b
    unfold spec_PortOk.f
    rw [in_eq, h1, in_eq]
    simp only [Option.bind_some, spec_PortOk.j0, h2]
    repeat' split
    all_goals exact ⟨_, rfl⟩
  obtain ⟨r, hr⟩ := h
  exact ⟨r, fun k => ⟨(e' k).trans hr, (e k).trans hr⟩⟩

theorem j6_some (x1 x89 a b c d e f g h p q r s) : ∃ z, spec_PortStep.j6 1 x1 x89 a b c d e f g h p q r s = some z := by
  simp only [spec_PortStep.j6]
  repeat' split
  all_goals exact ⟨_, rfl⟩
theorem j5_some (x1 x75 a b c d e f g h p q r s) : ∃ z, spec_PortStep.j5 2 x1 x75 a b c d e f g h p q r s = some z := by
  simp only [spec_PortStep.j5]
  repeat' split
  all_goals first | exact ⟨_, rfl⟩ | exact j6_some ..
theorem j4_some (x1 x66 a b c d e f g h p q r s) : ∃ z, spec_PortStep.j4 3 x1 x66 a b c d e f g h p q r s = some z := by
  simp only [spec_PortStep.j4]
  repeat' split
  all_goals first | exact ⟨_, rfl⟩ | exact j5_some ..
theorem j3_some (x1 x2 x48 a b c d e f g h p q r s) : ∃ z, spec_PortStep.j3 4 x1 x2 x48 a b c d e f g h p q r s = some z := by
  simp only [spec_PortStep.j3]
  repeat' split
  all_goals first | exact ⟨_, rfl⟩ | exact j4_some ..
theorem j2_some (x1 x2 x38 a b c d e f g h p q r s) : ∃ z, spec_PortStep.j2 5 x1 x2 x38 a b c d e f g h p q r s = some z := by
  obtain ⟨w, hw⟩ := width_eq x2
  simp only [spec_PortStep.j2, hw, Option.bind_some]
  repeat' split
  all_goals first | exact ⟨_, rfl⟩ | exact j3_some ..
theorem j1_some (x1 x2 x28 a b c d e f g h p q r s) : ∃ z, spec_PortStep.j1 6 x1 x2 x28 a b c d e f g h p q r s = some z := by
  simp only [spec_PortStep.j1]
  repeat' split
  all_goals first | exact ⟨_, rfl⟩ | exact j2_some ..
theorem j0_some (x1 x2 x19 a b c d e f g h p q r s) : ∃ z, spec_PortStep.j0 7 x1 x2 x19 a b c d e f g h p q r s = some z := by
  simp only [spec_PortStep.j0]
  repeat' split
  all_goals first | exact ⟨_, rfl⟩ | exact j1_some ..
theorem step_some (a b c d x y : Int) : ∃ z, spec_PortStep.f 7 a b c d x y = some z := by
  obtain ⟨r, hr⟩ := portOk_both a b c d
  unfold spec_PortStep.f
  rw [(hr 6).1]
  simp only [Option.bind_some]
  repeat' split
  all_goals first | exact ⟨_, rfl⟩ | exact j0_some ..
theorem step_same (a b c d x y : Int) : impl_PortStep.f 7 a b c d x y = spec_PortStep.f 7 a b c d x y := rfl

/-- An event that is refused leaves the port as it was. -/
theorem j6_no (x1 x89 a b c d e f g h p q r s w0 w1 w2 w3) (H : spec_PortStep.j6 1 x1 x89 a b c d e f g h p q r s = some (w0, w1, w2, w3, false)) : w0 = a ∧ w1 = b ∧ w2 = c ∧ w3 = d := by
  simp only [spec_PortStep.j6] at H
  repeat' split at H
  all_goals simp at H
  all_goals (obtain ⟨rfl, rfl, rfl, rfl⟩ := H; exact ⟨rfl, rfl, rfl, rfl⟩)
theorem j5_no (x1 x89 a b c d e f g h p q r s w0 w1 w2 w3) (H : spec_PortStep.j5 2 x1 x89 a b c d e f g h p q r s = some (w0, w1, w2, w3, false)) : w0 = a ∧ w1 = b ∧ w2 = c ∧ w3 = d := by
  simp only [spec_PortStep.j5] at H
  repeat' split at H
  all_goals first | exact j6_no _ _ _ _ _ _ _ _ _ _ _ _ _ _ _ _ _ _ H | (simp at H; done)
theorem j4_no (x1 x89 a b c d e f g h p q r s w0 w1 w2 w3) (H : spec_PortStep.j4 3 x1 x89 a b c d e f g h p q r s = some (w0, w1, w2, w3, false)) : w0 = a ∧ w1 = b ∧ w2 = c ∧ w3 = d := by
  simp only [spec_PortStep.j4] at H
  repeat' split at H
  all_goals first | exact j5_no _ _ _ _ _ _ _ _ _ _ _ _ _ _ _ _ _ _ H | (simp at H; done)
theorem j3_no (x1 x2 x89 a b c d e f g h p q r s w0 w1 w2 w3) (H : spec_PortStep.j3 4 x1 x2 x89 a b c d e f g h p q r s = some (w0, w1, w2, w3, false)) : w0 = a ∧ w1 = b ∧ w2 = c ∧ w3 = d := by
  simp only [spec_PortStep.j3] at H
  repeat' split at H
  all_goals first | exact j4_no _ _ _ _ _ _ _ _ _ _ _ _ _ _ _ _ _ _ H | (simp at H; done)
theorem j2_no (x1 x2 x89 a b c d e f g h p q r s w0 w1 w2 w3) (H : spec_PortStep.j2 5 x1 x2 x89 a b c d e f g h p q r s = some (w0, w1, w2, w3, false)) : w0 = a ∧ w1 = b ∧ w2 = c ∧ w3 = d := by
  obtain ⟨w, hw⟩ := width_eq x2
  simp only [spec_PortStep.j2, hw, Option.bind_some] at H
  repeat' split at H
  all_goals first | exact j3_no _ _ _ _ _ _ _ _ _ _ _ _ _ _ _ _ _ _ _ H | (simp at H; done)
theorem j1_no (x1 x2 x89 a b c d e f g h p q r s w0 w1 w2 w3) (H : spec_PortStep.j1 6 x1 x2 x89 a b c d e f g h p q r s = some (w0, w1, w2, w3, false)) : w0 = a ∧ w1 = b ∧ w2 = c ∧ w3 = d := by
  simp only [spec_PortStep.j1] at H
  repeat' split at H
  all_goals first | exact j2_no _ _ _ _ _ _ _ _ _ _ _ _ _ _ _ _ _ _ _ H | (simp at H; done)
theorem j0_no (x1 x2 x89 a b c d e f g h p q r s w0 w1 w2 w3) (H : spec_PortStep.j0 7 x1 x2 x89 a b c d e f g h p q r s = some (w0, w1, w2, w3, false)) : w0 = a ∧ w1 = b ∧ w2 = c ∧ w3 = d := by
  simp only [spec_PortStep.j0] at H
  repeat' split at H
  all_goals first | exact j1_no _ _ _ _ _ _ _ _ _ _ _ _ _ _ _ _ _ _ _ H | (simp at H; done)
theorem step_no (a b c d x y w0 w1 w2 w3 : Int) (H : spec_PortStep.f 7 a b c d x y = some (w0, w1, w2, w3, false)) : w0 = a ∧ w1 = b ∧ w2 = c ∧ w3 = d := by
  obtain ⟨r, hr⟩ := portOk_both a b c d
  unfold spec_PortStep.f at H
  rw [(hr 6).1] at H
  simp only [Option.bind_some] at H
  repeat' split at H
  all_goals first | exact j0_no _ _ _ _ _ _ _ _ _ _ _ _ _ _ _ _ _ _ _ H | (simp at H; obtain ⟨rfl, rfl, rfl, rfl⟩ := H; exact ⟨rfl, rfl, rfl, rfl⟩)
/-- One step of both, with rounds enough. -/
theorem step_both (a b c d x y : Int) : ∃ w0 w1 w2 w3 ok, (ok = false → w0 = a ∧ w1 = b ∧ w2 = c ∧ w3 = d) ∧ ∀ k, 7 ≤ k → spec_PortStep.f k a b c d x y = some (w0, w1, w2, w3, ok) ∧ impl_PortStep.f k a b c d x y = some (w0, w1, w2, w3, ok) := by
  obtain ⟨⟨w0, w1, w2, w3, ok⟩, hz⟩ := step_some a b c d x y
  refine ⟨w0, w1, w2, w3, ok, ?_, fun k hk => ⟨at_rounds (spec_PortStep.mono a b c d x y) hk hz, at_rounds (impl_PortStep.mono a b c d x y) hk ((step_same a b c d x y).trans hz)⟩⟩
  rintro rfl
  exact step_no a b c d x y w0 w1 w2 w3 hz
theorem toIntS_l0 (l : List Int) (hb : l.length ≤ 1048576) (d : Nat) : ∀ (x : List Int) (i : Nat), x.length = l.length → x.take i = l.take i → i + d = l.length → ∀ k, d < k → laws_toIntS.l0 k l x (i : Int) = some l := by
  induction d with
  | zero =>
    intro x i hx ht hi k hk
    obtain ⟨k, rfl⟩ : ∃ m, k = m + 1 := ⟨k - 1, by omega⟩
    simp only [laws_toIntS.l0]
    rw [if_neg (show ¬ (i : Int) < (l.length : Int) by omega), fill_end x l i hx (by omega) ht]
  | succ d ih =>
    intro x i hx ht hi k hk
    obtain ⟨k, rfl⟩ : ∃ m, k = m + 1 := ⟨k - 1, by omega⟩
    simp only [laws_toIntS.l0]
    rw [if_pos (show (i : Int) < (l.length : Int) by omega), if_pos (show (0 : Int) ≤ (i : Int) by omega), if_pos (show (i : Int) < (x.length : Int) by omega), wrap_succ i (by omega), toNat_nat, rd_lt l i (by omega)]
    exact ih _ (i + 1) (by simp [hx]) (fill_step x l i _ (by omega) (by omega) ht rfl) (by omega) k (by omega)
theorem toIntS_ev (l : List Int) (hb : l.length ≤ 1048576) : ∀ k, l.length < k → laws_toIntS.f k l = some l := by
  intro k hk
  unfold laws_toIntS.f
  rw [if_pos (by omega), if_pos (by omega)]
  exact toIntS_l0 l hb l.length _ 0 (by simp) (by simp) (by omega) k hk
theorem eqIntS_l0 (a b : List Int) (hl : a.length = b.length) (hb : a.length < 9223372036854775807) (d : Nat) : ∀ (i : Nat), i + d = a.length → ∀ k, d < k → laws_eqIntS.l0 k a b (i : Int) = some (decide (a.drop i = b.drop i)) := by
  induction d with
  | zero =>
    intro i hi k hk
    obtain ⟨k, rfl⟩ : ∃ m, k = m + 1 := ⟨k - 1, by omega⟩
    simp only [laws_eqIntS.l0]
    rw [if_neg (show ¬ (i : Int) < (a.length : Int) by omega), drop_all a i (by omega), drop_all b i (by omega)]
    simp
  | succ d ih =>
    intro i hi k hk
    obtain ⟨k, rfl⟩ : ∃ m, k = m + 1 := ⟨k - 1, by omega⟩
    simp only [laws_eqIntS.l0]
    rw [if_pos (show (i : Int) < (a.length : Int) by omega), if_pos (show (0 : Int) ≤ (i : Int) by omega), if_pos (show (i : Int) < (b.length : Int) by omega)]
    by_cases he : rd a (i : Int) = rd b (i : Int)
    · rw [if_pos he, wrap_succ i (by omega), ih (i + 1) (by omega) k (by omega)]
      congr 1
      rw [decide_eq_decide, drop_eq_iff a b i (by omega) (by omega)]
      exact ⟨fun h => ⟨he, h⟩, fun h => h.2⟩
    · rw [if_neg he]
      congr 1
      symm
      rw [decide_eq_false_iff_not, drop_eq_iff a b i (by omega) (by omega)]
      exact fun h => he h.1
theorem eqIntS_ev (a b : List Int) (hb : a.length < 9223372036854775807) : ∀ k, a.length < k → laws_eqIntS.f k a b = some (decide (a = b)) := by
  intro k hk
  unfold laws_eqIntS.f
  by_cases hl : a.length = b.length
  · rw [if_pos (by omega)]
    exact eqIntS_l0 a b hl hb a.length 0 (by omega) k hk
  · rw [if_neg (by omega), decide_eq_false (fun h => hl (by rw [h]))]

theorem run_both (l : List Int) (y : Int) (hb : l.length ≤ 1048576) (n : Nat) : ∀ (i c : Nat) (p q r s : Int), i + n = l.length → c ≤ i →
    ∃ z, ∀ k, n + 7 < k → spec_PortRun.l0 k l y (c : Int) (i : Int) p q r s = some z ∧ impl_PortRun.l0 k y (c : Int) l (l.length : Int) (i : Int) p q r s = some z := by
  induction n with
  | zero =>
    intro i c p q r s hi hc
    refine ⟨(p, q, r, s, (c : Int)), fun k hk => ?_⟩
    obtain ⟨k, rfl⟩ : ∃ m, k = m + 1 := ⟨k - 1, by omega⟩
    simp only [spec_PortRun.l0, impl_PortRun.l0]
    have hlt : ¬ (i : Int) < (l.length : Int) := by omega
    rw [if_neg hlt, if_neg hlt]
    exact ⟨rfl, rfl⟩
  | succ n ih =>
    intro i c p q r s hi hc
    obtain ⟨w0, w1, w2, w3, ok, hno, hst⟩ := step_both p q r s (rd l i) y
    have hlt : (i : Int) < (l.length : Int) := by omega
    have h0 : (0 : Int) ≤ (i : Int) := by omega
    cases ok with
    | true =>
      obtain ⟨z, hz⟩ := ih (i + 1) (c + 1) w0 w1 w2 w3 (by omega) (by omega)
      refine ⟨z, fun k hk => ?_⟩
      obtain ⟨k, rfl⟩ : ∃ m, k = m + 1 := ⟨k - 1, by omega⟩
      obtain ⟨h1, h2⟩ := hst k (by omega)
      simp only [spec_PortRun.l0, impl_PortRun.l0]
      rw [if_pos hlt, if_pos h0, if_pos hlt, if_pos h0, if_pos hlt, h1, h2]
      simp only [Option.bind_some, if_true]
      rw [wrap_succ i (by omega), wrap_succ c (by omega)]
      exact hz k (by omega)
    | false =>
      obtain ⟨rfl, rfl, rfl, rfl⟩ := hno rfl
      obtain ⟨z, hz⟩ := ih (i + 1) c w0 w1 w2 w3 (by omega) (by omega)
      refine ⟨z, fun k hk => ?_⟩
      obtain ⟨k, rfl⟩ : ∃ m, k = m + 1 := ⟨k - 1, by omega⟩
      obtain ⟨h1, h2⟩ := hst k (by omega)
      simp only [spec_PortRun.l0, impl_PortRun.l0]
      rw [if_pos hlt, if_pos h0, if_pos hlt, if_pos h0, if_pos hlt, h1, h2]
      simp only [Option.bind_some]
      rw [if_neg (by decide), if_neg (by decide), wrap_succ i (by omega)]
      exact hz k (by omega)

theorem FnExactPortRun : laws_FnExactPortRun.Pure := by
  intro p q r s l y _ _ _ _ _ _
  by_cases hb : (l.length : Int) > 1048576
  · exact ⟨1, by unfold laws_FnExactPortRun.f; rw [if_pos hb]⟩
  · obtain ⟨⟨w0, w1, w2, w3, c⟩, hz⟩ := run_both l y (by omega) l.length 0 0 p q r s (by omega) (by omega)
    obtain ⟨h1, h2⟩ := hz (1048577 + 8) (by omega)
    refine ⟨1048577 + 8, ?_⟩
    unfold laws_FnExactPortRun.f laws_toPort.f spec_PortRun.f impl_PortRun.f laws_eqPort.f
    have c0 : ((0 : Nat) : Int) = 0 := rfl
    rw [c0] at h1 h2
    rw [if_neg hb]
    simp only [Option.bind_some, toIntS_ev l (by omega) (1048577 + 8) (by omega), h1, h2]
    simp only [if_true, Option.bind_some, bne_self_eq_false, laws_FnExactPortRun.j0]
    rw [if_neg (by decide), toIntS_ev l (by omega) _ (by omega)]
    simp only [Option.bind_some]
    rw [eqIntS_ev l l (by omega) _ (by omega)]
    simp

end Go.Proofs.Ytkncnleibofkbaa.Pure
