/- The statement FnPorts over lists of bytes: whatever is drawn, every event keeps a port valid. Draws that are longer than the law's own bound are let by, as the law itself does. -/
import Derived.Test.YtemapchppbpfmaaPFnPortsx8
import Derived.Test.YtemapchppbpfmaaQLists
namespace Go.Proofs.Ytemapchppbpfmaa.Pure
set_option linter.unusedVariables false
set_option linter.unusedSimpArgs false
open Go.RowKit Go.Proofs.Ytemapchppbpfmaa.PFnPorts Go.Proofs.YtemapchppbpfmaaW.PrintWords Go.Proofs.YtemapchppbpfmaaW.PrintLast Go.Proofs.YtemapchppbpfmaaW.PrintMore Go.Proofs.YtemapchppbpfmaaX

/-- A cursor that has read no more than there is. -/
def CurOk (l : List Int) (i : Int) : Prop := 0 ≤ i ∧ i ≤ l.length ∧ (l.length : Int) ≤ 140737488351232
theorem byte_ok (l : List Int) (i h : Int) (hc : CurOk l i) : ∃ x i' h', spec_l01Byte.f l i h = some (x, i', h') ∧ 0 ≤ x ∧ x ≤ 255 ∧ CurOk l i' := by
  obtain ⟨h0, h1, h2⟩ := hc
  unfold spec_l01Byte.f
  by_cases hi : i < (l.length : Int)
  · rw [if_pos hi, if_pos h0]
    exact ⟨_, _, _, rfl, (and_mask _ 255 (by decide)).1, (and_mask _ 255 (by decide)).2, by rw [wrap_id _ (by omega)]; exact ⟨by omega, by omega, h2⟩⟩
  · rw [if_neg hi]
    exact ⟨_, _, _, rfl, (and_mask _ 255 (by decide)).1, (and_mask _ 255 (by decide)).2, ⟨h0, h1, h2⟩⟩
theorem below_ok (l : List Int) (i h n : Int) (hc : CurOk l i) (hn : 0 < n) : ∃ x i' h', spec_l01Below.f l i h n = some (x, i', h') ∧ 0 ≤ x ∧ x < n ∧ CurOk l i' := by
  unfold spec_l01Below.f
  rw [if_neg (by omega)]
  by_cases hb : n ≤ 256
  · rw [if_pos hb]
    obtain ⟨x, i1, h1, e, hx0, hx1, hc1⟩ := byte_ok l i h hc
    rw [e]
    simp only [Option.bind_some]
    rw [if_neg (by omega)]
    exact ⟨_, _, _, rfl, (tmod_range x n hx0 hn).1, (tmod_range x n hx0 hn).2, hc1⟩
  · rw [if_neg hb]
    obtain ⟨x, i1, h1, e1, hx0, hx1, hc1⟩ := byte_ok l i h hc
    obtain ⟨y, i2, h2, e2, hy0, hy1, hc2⟩ := byte_ok l i1 h1 hc1
    obtain ⟨z, i3, h3, e3, hz0, hz1, hc3⟩ := byte_ok l i2 h2 hc2
    obtain ⟨w, i4, h4, e4, hw0, hw1, hc4⟩ := byte_ok l i3 h3 hc3
    rw [e1]
    simp only [Option.bind_some]
    rw [e2]
    simp only [Option.bind_some]
    rw [e3]
    simp only [Option.bind_some]
    rw [e4]
    simp only [Option.bind_some]
    rw [if_neg (by omega)]
    have hv : 0 ≤ wrap64 ((wrap64 ((wrap64 ((wrap64 (x * 16777216)) + (wrap64 (y * 65536)))) + (wrap64 (z * 256)))) + w) := by
      rw [wrap_id (x * 16777216) (by omega), wrap_id (y * 65536) (by omega), wrap_id (z * 256) (by omega), wrap_id (x * 16777216 + y * 65536) (by omega), wrap_id (x * 16777216 + y * 65536 + z * 256) (by omega), wrap_id _ (by omega)]
      omega
    exact ⟨_, _, _, rfl, (tmod_range _ n hv hn).1, (tmod_range _ n hv hn).2, hc4⟩
theorem pick_ok (l : List Int) (i h : Int) (xs : List Int) (hc : CurOk l i) (hx : 0 < xs.length) : ∃ x i' h', spec_l01PickInt.f l i h xs = some (x, i', h') ∧ x ∈ xs ∧ CurOk l i' := by
  unfold spec_l01PickInt.f
  obtain ⟨q, i1, h1, e, h0, h2, hc1⟩ := below_ok l i h (xs.length : Int) hc (by omega)
  rw [e]
  simp only [Option.bind_some]
  rw [if_pos h0, if_pos h2]
  obtain ⟨m, rfl⟩ := Int.eq_ofNat_of_zero_le h0
  refine ⟨_, _, _, rfl, ?_, hc1⟩
  rw [rd_lt xs m (by omega)]
  exact List.getElem_mem _
theorem new_l0 (l : List Int) (d : Nat) : ∀ (i : Nat) (h : Int), i + d = 4000 → ∃ h', ∀ k, d < k → spec_l01New.l0 k l h (i : Int) = some (l, 0, h') := by
  induction d with
  | zero =>
    intro i h hi
    refine ⟨h, fun k hk => ?_⟩
    obtain ⟨k, rfl⟩ : ∃ m, k = m + 1 := ⟨k - 1, by omega⟩
    simp only [spec_l01New.l0]
    by_cases hlt : (i : Int) < (l.length : Int)
    · rw [if_pos hlt, if_neg (by omega)]
    · rw [if_neg hlt]
  | succ d ih =>
    intro i h hi
    by_cases hlt : (i : Int) < (l.length : Int)
    · obtain ⟨h', hh⟩ := ih (i + 1) (Go.bits .and .i64 (wrap64 ((wrap64 ((wrap64 (h * 131)) + (wrap64 (rd l i)))) + 7)) 1073741823) (by omega)
      refine ⟨h', fun k hk => ?_⟩
      obtain ⟨k, rfl⟩ : ∃ m, k = m + 1 := ⟨k - 1, by omega⟩
      simp only [spec_l01New.l0]
      rw [if_pos hlt, if_pos (show (i : Int) < 4000 by omega), if_pos (by omega), wrap_succ i (by omega)]
      exact hh k (by omega)
    · refine ⟨h, fun k hk => ?_⟩
      obtain ⟨k, rfl⟩ : ∃ m, k = m + 1 := ⟨k - 1, by omega⟩
      simp only [spec_l01New.l0]
      rw [if_neg hlt]
theorem new_ok (l : List Int) : ∃ h', ∀ k, 4000 < k → spec_l01New.f k l = some (l, 0, h') := by
  unfold spec_l01New.f
  exact new_l0 l 4000 0 _ (by omega)
theorem places_l0 (l : List Int) (d : Nat) : ∀ (n : Nat) (xs : List Int) (i h : Int), n + d = 12 → xs.length = n → (∀ x ∈ xs, 0 ≤ x ∧ x < 10000) → CurOk l i → ∃ ys, ys.length = 12 ∧ (∀ x ∈ ys, 0 ≤ x ∧ x < 10000) ∧ ∀ k, d < k → spec_DrawPlaces.l0 k xs (n : Int) l i h = some ys := by
  induction d with
  | zero =>
    intro n xs i h hn hx hr hc
    refine ⟨xs, by omega, hr, fun k hk => ?_⟩
    obtain ⟨k, rfl⟩ : ∃ m, k = m + 1 := ⟨k - 1, by omega⟩
    simp only [spec_DrawPlaces.l0]
    rw [if_neg (by omega)]
  | succ d ih =>
    intro n xs i h hn hx hr hc
    obtain ⟨x, i1, h1, e, hx0, hx1, hc1⟩ := below_ok l i h 10000 hc (by omega)
    obtain ⟨ys, hy1, hy2, hy3⟩ := ih (n + 1) (xs ++ [x]) i1 h1 (by omega) (by simp [hx]) (by
      intro z hz
      rcases List.mem_append.1 hz with hz | hz
      · exact hr z hz
      · rw [List.mem_singleton.1 hz]; exact ⟨hx0, hx1⟩) hc1
    refine ⟨ys, hy1, hy2, fun k hk => ?_⟩
    obtain ⟨k, rfl⟩ : ∃ m, k = m + 1 := ⟨k - 1, by omega⟩
    simp only [spec_DrawPlaces.l0]
    rw [if_pos (by omega), e]
    simp only [Option.bind_some]
    rw [if_pos (by omega), wrap_succ n (by omega)]
    exact hy3 k (by omega)
theorem places_ok (l : List Int) (hl : (l.length : Int) ≤ 140737488351232) : ∃ ys : List Int, ys.length = 12 ∧ (∀ x ∈ ys, 0 ≤ x ∧ x < 10000) ∧ ∀ k, 4000 < k → spec_DrawPlaces.f k l = some ys := by
  obtain ⟨h, hn⟩ := new_ok l
  obtain ⟨ys, h1, h2, h3⟩ := places_l0 l 12 0 [] 0 h (by omega) rfl (by simp) ⟨by omega, by omega, hl⟩
  refine ⟨ys, h1, h2, fun k hk => ?_⟩
  unfold spec_DrawPlaces.f
  rw [hn k hk]
  simp only [Option.bind_some]
  exact h3 k (by omega)
/-- A valid port, over small numbers. -/
def okZ (a b c d : Int) : Bool := decide ((0 ≤ a ∧ a ≤ 5) ∧ (0 ≤ b ∧ b ≤ 4) ∧ (c = 1 ∨ c = 2 ∨ c = 4) ∧ (0 ≤ d ∧ d ≤ 3)) && (impl_PortOk.f 10 a b c d == some true)
def stepOk (s w o r e x : Nat) : Bool := match spec_PortStep.f 10 s w o r e x with | some (a, b, c, d, _) => okZ a b c d | none => false
def allOver (f : Nat → Nat → Nat → Nat → Nat → Nat → Bool) : Bool := (List.range 6).all fun s => (List.range 5).all fun w => (List.range 5).all fun o => (List.range 4).all fun r => !okZ s w o r || (List.range 7).all fun e => [1, 2, 4].all fun x => f s w o r e x
theorem allOver_get {f : Nat → Nat → Nat → Nat → Nat → Nat → Bool} (h : allOver f = true) (s : Nat) (hs : s < 6) (w : Nat) (hw : w < 5) (o : Nat) (ho : o < 5) (r : Nat) (hr : r < 4) (hk : okZ s w o r = true) (e : Nat) (he : e < 7) (x : Nat) (hx : x = 1 ∨ x = 2 ∨ x = 4) : f s w o r e x = true := by
  unfold allOver at h
  have h1 := List.all_eq_true.mp h s (List.mem_range.2 hs)
  have h2 := List.all_eq_true.mp h1 w (List.mem_range.2 hw)
  have h3 := List.all_eq_true.mp h2 o (List.mem_range.2 ho)
  have h4 := List.all_eq_true.mp h3 r (List.mem_range.2 hr)
  rw [hk, Bool.not_true, Bool.false_or] at h4
  have h5 := List.all_eq_true.mp h4 e (List.mem_range.2 he)
  exact List.all_eq_true.mp h5 x (by simp; omega)
theorem step_table : allOver stepOk = true := by decide +kernel
theorem okZ_nat {a b c d : Int} (h : okZ a b c d = true) : ∃ s w o r : Nat, (s < 6 ∧ w < 5 ∧ o < 5 ∧ r < 4) ∧ a = (s : Int) ∧ b = (w : Int) ∧ c = (o : Int) ∧ d = (r : Int) := by
  unfold okZ at h
  rw [Bool.and_eq_true, decide_eq_true_eq] at h
  have h := h.1
  exact ⟨a.toNat, b.toNat, c.toNat, d.toNat, by omega, by omega, by omega, by omega, by omega⟩
theorem sStep_k (k : Nat) (s w o r e x : Int) : spec_PortStep.f (k + 10) s w o r e x = spec_PortStep.f 10 s w o r e x := rfl
theorem sStep_ok (k : Nat) {s w o r : Int} (h : okZ s w o r = true) (e x : Int) (he : 0 ≤ e ∧ e ≤ 6) (hx : x = 1 ∨ x = 2 ∨ x = 4) : ∃ a b c d t, spec_PortStep.f (k + 10) s w o r e x = some (a, b, c, d, t) ∧ okZ a b c d = true := by
  rw [sStep_k]
  obtain ⟨s', w', o', r', hb, rfl, rfl, rfl, rfl⟩ := okZ_nat h
  obtain ⟨e', rfl⟩ := Int.eq_ofNat_of_zero_le he.1
  obtain ⟨x', rfl⟩ := Int.eq_ofNat_of_zero_le (show 0 ≤ x by omega)
  have g := allOver_get step_table s' hb.1 w' hb.2.1 o' hb.2.2.1 r' hb.2.2.2 h e' (by omega) x' (by omega)
  unfold stepOk at g
  split at g
  · rename_i a b c d t hq
    exact ⟨a, b, c, d, t, hq, g⟩
  · cases g
theorem run_l0 (ev : List Int) (hev : ∀ e ∈ ev, 0 ≤ e ∧ e ≤ 6) (hlen : ev.length ≤ 100) (x : Int) (hx : x = 1 ∨ x = 2 ∨ x = 4) (m : Nat) : ∀ (i n : Nat) (s w o r : Int), i + m = ev.length → n ≤ i → okZ s w o r = true → ∃ a b c d z, okZ a b c d = true ∧ ∀ k, 20 + m < k → spec_PortRun.l0 k ev x (n : Int) (i : Int) s w o r = some (a, b, c, d, z) := by
  induction m with
  | zero =>
    intro i n s w o r hi hn h
    refine ⟨s, w, o, r, (n : Int), h, fun k hk => ?_⟩
    obtain ⟨k, rfl⟩ : ∃ m, k = m + 1 := ⟨k - 1, by omega⟩
    simp only [spec_PortRun.l0]
    rw [if_neg (by omega)]
  | succ m ih =>
    intro i n s w o r hi hn h
    have hlt : i < ev.length := by omega
    have he := hev _ (List.getElem_mem hlt)
    obtain ⟨a, b, c, d, t, h1, h2⟩ := sStep_ok 0 h ev[i] x he hx
    have h1' : ∀ k, 10 ≤ k → spec_PortStep.f k s w o r ev[i] x = some (a, b, c, d, t) := fun k hk => by
      obtain ⟨k, rfl⟩ : ∃ m, k = m + 10 := ⟨k - 10, by omega⟩
      rw [sStep_k, ← h1]
    cases t with
    | true =>
      obtain ⟨a', b', c', d', z, g1, g2⟩ := ih (i + 1) (n + 1) a b c d (by omega) (by omega) h2
      refine ⟨a', b', c', d', z, g1, fun k hk => ?_⟩
      obtain ⟨k, rfl⟩ : ∃ m, k = m + 1 := ⟨k - 1, by omega⟩
      simp only [spec_PortRun.l0]
      rw [if_pos (by omega), if_pos (by omega), rd_lt ev i hlt, h1' k (by omega)]
      simp only [Option.bind_some, if_true]
      rw [wrap_succ n (by omega), wrap_succ i (by omega)]
      exact g2 k (by omega)
    | false =>
      obtain ⟨a', b', c', d', z, g1, g2⟩ := ih (i + 1) n a b c d (by omega) (by omega) h2
      refine ⟨a', b', c', d', z, g1, fun k hk => ?_⟩
      obtain ⟨k, rfl⟩ : ∃ m, k = m + 1 := ⟨k - 1, by omega⟩
      simp only [spec_PortRun.l0]
      rw [if_pos (by omega), if_pos (by omega), rd_lt ev i hlt, h1' k (by omega)]
      simp only [Option.bind_some, Bool.false_eq_true, if_false]
      rw [wrap_succ i (by omega)]
      exact g2 k (by omega)
theorem events_l0 (l : List Int) (d : Nat) : ∀ (n : Nat) (q : List Int) (i h : Int), n + d = 9 → q.length = n → (∀ e ∈ q, 0 ≤ e ∧ e ≤ 6) → CurOk l i → ∃ q' i' h', q'.length ≤ 9 ∧ (∀ e ∈ q', 0 ≤ e ∧ e ≤ 6) ∧ CurOk l i' ∧ ∀ k, d < k → spec_l13Events.l0 k q (n : Int) l i h = some (q', i', h') := by
  induction d with
  | zero =>
    intro n q i h hn hq hg hc
    obtain ⟨b, i1, h1, e1, hb0, hb1, hc1⟩ := below_ok l i h 10 hc (by omega)
    refine ⟨q, i1, h1, by omega, hg, hc1, fun k hk => ?_⟩
    obtain ⟨k, rfl⟩ : ∃ m, k = m + 1 := ⟨k - 1, by omega⟩
    simp only [spec_l13Events.l0]
    rw [e1]
    simp only [Option.bind_some]
    rw [if_neg (by omega)]
  | succ d ih =>
    intro n q i h hn hq hg hc
    obtain ⟨b, i1, h1, e1, hb0, hb1, hc1⟩ := below_ok l i h 10 hc (by omega)
    by_cases hlt : (n : Int) < b
    · obtain ⟨c, i3, h3, e3, hm, hc3⟩ := pick_ok l i1 h1 [0, 1, 2, 0, 1, 2, 3, 4, 5, 6, 6] hc1 (by simp)
      simp only [List.mem_cons, List.not_mem_nil, or_false] at hm
      obtain ⟨q', i', h', g1, g2, g3, g4⟩ := ih (n + 1) (q ++ [c]) i3 h3 (by omega) (by simp [hq]) (fun x hx => by
        rcases List.mem_append.1 hx with hx | hx
        · exact hg x hx
        · rw [List.mem_singleton.1 hx]; omega) hc3
      refine ⟨q', i', h', g1, g2, g3, fun k hk => ?_⟩
      obtain ⟨k, rfl⟩ : ∃ m, k = m + 1 := ⟨k - 1, by omega⟩
      simp only [spec_l13Events.l0]
      rw [e1]
      simp only [Option.bind_some]
      rw [if_pos hlt, e3]
      simp only [Option.bind_some]
      rw [if_pos (by omega), wrap_succ n (by omega)]
      exact g4 k (by omega)
    · refine ⟨q, i1, h1, by omega, hg, hc1, fun k hk => ?_⟩
      obtain ⟨k, rfl⟩ : ∃ m, k = m + 1 := ⟨k - 1, by omega⟩
      simp only [spec_l13Events.l0]
      rw [e1]
      simp only [Option.bind_some]
      rw [if_neg hlt]
theorem start_table : okZ 0 0 1 0 = true ∧ okZ 0 0 2 0 = true ∧ okZ 0 0 4 0 = true := by decide +kernel
theorem drawPort_ok (l : List Int) (hl : (l.length : Int) ≤ 140737488351232) : ∃ s w o r, okZ s w o r = true ∧ ∀ k, 4000 < k → spec_DrawPort.f k l = some (s, w, o, r) := by
  obtain ⟨h, e0⟩ := new_ok l
  obtain ⟨o, i1, h1, e1, ho, hc1⟩ := pick_ok l 0 h [1, 2, 4] ⟨by omega, by omega, hl⟩ (by simp)
  obtain ⟨ev, i2, h2, g1, g2, hc2, e2⟩ := events_l0 l 9 0 [] i1 h1 (by omega) rfl (fun x hx => by cases hx) hc1
  obtain ⟨x, i3, h3, e3, hx, hc3⟩ := pick_ok l i2 h2 [1, 2, 4] hc2 (by simp)
  simp only [List.mem_cons, List.not_mem_nil, or_false] at ho hx
  have h0 : okZ 0 0 o 0 = true := by
    rcases ho with rfl | rfl | rfl
    · exact start_table.1
    · exact start_table.2.1
    · exact start_table.2.2
  obtain ⟨a, b, c, d, z, q1, q2⟩ := run_l0 ev g2 (by omega) x hx ev.length 0 0 0 0 o 0 (by omega) (by omega) h0
  refine ⟨a, b, c, d, q1, fun k hk => ?_⟩
  have c0 : ((0 : Nat) : Int) = 0 := rfl
  have e2' := e2 k (by omega)
  have q2' := q2 k (by omega)
  rw [c0] at e2' q2'
  unfold spec_DrawPort.f spec_l13Port.f spec_l13Events.f spec_PortRun.f
  rw [e0 k hk]
  simp only [Option.bind_some]
  rw [e1]
  simp only [Option.bind_some]
  rw [e2']
  simp only [Option.bind_some]
  rw [e3]
  simp only [Option.bind_some]
  rw [q2']
  rfl
/-- What the law asks of a port, an event and a width. -/
def portLaw (k : Nat) (s w o r e x : Int) : Option Bool := ((impl_PortStep.f k s w o r e x).bind fun bt248 => ((impl_PortStep.f k s w o r 4 1).bind fun bt254 => ((impl_PortOk.f k s w o r).bind fun t260 => (if t260 = true then ((impl_PortOk.f k bt248.1 bt248.2.1 bt248.2.2.1 bt248.2.2.2.1).bind fun t261 => (if t261 = true then (if bt248.2.2.2.2 = true then (if bt248.2.2.1 = o then (if (bt254.2.2.2.2 == (s != 5)) = true then (if bt254.2.2.2.2 = true then (if bt254.1 = 0 then (if bt254.2.1 = 0 then ((impl_StateName.f s).bind fun t262 => (some (t262.toList != ([] : List UInt8)))) else (some false)) else (some false)) else ((impl_StateName.f s).bind fun t263 => (some (t263.toList != ([] : List UInt8))))) else (some false)) else (some false)) else (if (bt248.1 == s && (bt248.2.1 == w && (bt248.2.2.1 == o && (bt248.2.2.2.1 == r)))) = true then (if bt248.2.2.1 = o then (if (bt254.2.2.2.2 == (s != 5)) = true then (if bt254.2.2.2.2 = true then (if bt254.1 = 0 then (if bt254.2.1 = 0 then ((impl_StateName.f s).bind fun t264 => (some (t264.toList != ([] : List UInt8)))) else (some false)) else (some false)) else ((impl_StateName.f s).bind fun t265 => (some (t265.toList != ([] : List UInt8))))) else (some false)) else (some false)) else (some false))) else (some false))) else (some false)))))
theorem law_table : (allOver fun s w o r e x => portLaw 10 s w o r e x == some true) = true := by decide +kernel
theorem iStep_k (k : Nat) (s w o r e x : Int) : impl_PortStep.f (k + 10) s w o r e x = impl_PortStep.f 10 s w o r e x := rfl
theorem iOk_k (k : Nat) (s w o r : Int) : impl_PortOk.f (k + 10) s w o r = impl_PortOk.f 10 s w o r := rfl
theorem law_ok {s w o r : Int} (h : okZ s w o r = true) (e x : Int) (he : 0 ≤ e ∧ e ≤ 6) (hx : x = 1 ∨ x = 2 ∨ x = 4) : portLaw 10 s w o r e x = some true := by
  obtain ⟨s', w', o', r', hb, rfl, rfl, rfl, rfl⟩ := okZ_nat h
  obtain ⟨e', rfl⟩ := Int.eq_ofNat_of_zero_le he.1
  obtain ⟨x', rfl⟩ := Int.eq_ofNat_of_zero_le (show 0 ≤ x by omega)
  exact beq_iff_eq.mp (allOver_get law_table s' hb.1 w' hb.2.1 o' hb.2.2.1 r' hb.2.2.2 h e' (by omega) x' (by omega))
theorem rd_range (p : List Int) (hp : p.length = 12) (hr : ∀ x ∈ p, 0 ≤ x ∧ x < 10000) (i : Nat) (hi : i < 12) : 0 ≤ rd p (i : Int) ∧ rd p (i : Int) < 10000 := by
  rw [rd_lt p i (by omega)]
  exact hr _ (List.getElem_mem _)
theorem pick3 (i : Int) (h : 0 ≤ i ∧ i < 3) : rd [1, 2, 4] i = 1 ∨ rd [1, 2, 4] i = 2 ∨ rd [1, 2, 4] i = 4 := by
  have : i = 0 ∨ i = 1 ∨ i = 2 := by omega
  rcases this with rfl | rfl | rfl
  · exact .inl rfl
  · exact .inr (.inl rfl)
  · exact .inr (.inr rfl)
theorem FnPorts : laws_FnPorts.Pure := by
  intro l hm hl _
  have hl : (l.length : Int) ≤ 140737488351232 := by omega
  obtain ⟨s, w, o, r, h0, e1⟩ := drawPort_ok l hl
  obtain ⟨p, hp1, hp2, e4⟩ := places_ok l hl
  obtain ⟨q0, q1⟩ := rd_range p hp1 hp2 0 (by omega)
  obtain ⟨r0, r1⟩ := rd_range p hp1 hp2 1 (by omega)
  have u : 0 ≤ Int.tmod (rd p 0) 7 ∧ Int.tmod (rd p 0) 7 < 7 := tmod_range (rd p ((0 : Nat) : Int)) 7 q0 (by omega)
  have v : 0 ≤ Int.tmod (rd p 1) 3 ∧ Int.tmod (rd p 1) 3 < 3 := tmod_range (rd p ((1 : Nat) : Int)) 3 r0 (by omega)
  have hlaw := law_ok h0 (Int.tmod (rd p 0) 7) (rd [1, 2, 4] (Int.tmod (rd p 1) 3)) ⟨u.1, by omega⟩ (pick3 _ v)
  refine ⟨5010, ?_⟩
  unfold laws_FnPorts.f laws_big.f
  simp only [Option.bind_some]
  by_cases hbig : (l.length : Int) > 1048576
  · rw [decide_eq_true hbig, if_pos rfl]
  rw [decide_eq_false hbig, if_neg (by decide), e1 _ (by omega)]
  simp only [Option.bind_some]
  rw [e4 _ (by omega)]
  simp only [Option.bind_some]
  rw [if_pos (by omega), if_pos (by omega), if_pos v.1, if_pos (show Int.tmod (rd p 1) 3 < (([1, 2, 4] : List Int).length : Int) from v.2)]
  have ks : (5010 : Nat) = 5000 + 10 := rfl
  rw [ks]
  simp only [iStep_k, iOk_k]
  unfold portLaw at hlaw
  exact hlaw

end Go.Proofs.Ytemapchppbpfmaa.Pure
