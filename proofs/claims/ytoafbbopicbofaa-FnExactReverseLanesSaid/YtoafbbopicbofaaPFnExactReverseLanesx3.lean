-- Written by a program of this session (wip/xp): not trusted, Lean checks it.
import Derived.Test.YtoafbbopicbofaaPFnExactReverseLanesx0
import Derived.Test.YtoafbbopicbofaaPFnExactReverseLanesx1
import Derived.Test.YtoafbbopicbofaaPFnExactReverseLanesx2
namespace Go.Proofs.Ytoafbbopicbofaa.PFnExactReverseLanes
open Go.RowKit Go.Proofs.YtoafbbopicbofaaW.PrintWords Go.Proofs.YtoafbbopicbofaaW.PrintLast Go.Proofs.YtoafbbopicbofaaW.PrintMore
attribute [local go_sem] max2_int min2_int max_two min_two max_three min_three max_four min_four   -- for this text's walks alone
set_option linter.unusedVariables false
set_option linter.unusedSimpArgs false

/-! ### a row of rows whose rows change places -/
/-- The row's cells; and the row again when they have changed places. -/
theorem S_places {α : Type} {D : Kd α} {e : Nat} {W : World} {base g n cap : Nat} {ok : Nat → Prop} {xs : List α} (h : Kd.S D e W base ok (.slice (some ⟨g, 0, none⟩) n cap) xs) (hs : D.sz = 1) :
    ∃ inner : List Value, inner.length = n ∧ xs.length = n ∧ W.ownsRow base e 1 (.slice (some ⟨g, 0, none⟩) n cap) n inner ∧ (∀ (i : Nat) (x : α) (v : Value), xs[i]? = some x → inner[i]? = some v → D.K W x [v]) ∧
      ∀ (σ : Nat → Nat) (W' : World) (inner' : List Value) (ys : List α), (∀ i, i < n → σ i < n ∧ inner'[i]? = inner[σ i]? ∧ ys[i]? = xs[σ i]?) → (∀ i j, i < n → j < n → σ i = σ j → i = j) → ys.length = n →
        W'.ownsRow base e 1 (.slice (some ⟨g, 0, none⟩) n cap) n inner' → W.grownBy W' (some g) → Kd.S D e W' base ok (.slice (some ⟨g, 0, none⟩) n cap) ys := by
  obtain ⟨f, h0, inner, ho, hr⟩ := h
  have hs' : ∀ F, (Kd.tag F D).sz = 1 := fun _ => hs
  have hlen : inner.length = xs.length := by have := hr.1; rw [List.length_zipIdx, hs', Nat.mul_one] at this; exact this
  have hn : xs.length = n := by
    obtain ⟨A', c', he⟩ := own_slice ho
    injection he with _ h2 _
    rw [List.length_zipIdx] at h2
    exact h2.symm
  rw [List.length_zipIdx, hs', hn] at ho
  have hat : ∀ i x v, xs[i]? = some x → inner[i]? = some v → (Kd.tag f D).M W base (fun k => ok k ∧ some k ≠ (Value.slice (some ⟨g, 0, none⟩) n cap).ownBlock) (x, i) [v] := by
    intro i x v hx hv
    have h1 := hr.2 i (x, i) (Kd.zip_at hx)
    obtain ⟨hl, hv'⟩ := List.getElem?_eq_some_iff.1 hv
    rw [hs', Nat.mul_one, List.drop_eq_getElem_cons hl, List.take_succ_cons, List.take_zero, hv'] at h1
    exact h1
  refine ⟨inner, by omega, hn, ho, fun i x v hx hv => D.K_of_M (hat i x v hx hv), fun σ W' inner' ys hp hinj hy ho' hg => ?_⟩
  · refine ⟨fun k => open Classical in if hk : ∃ m, m < n ∧ σ m = f k then hk.choose else n, h0, inner', by rw [List.length_zipIdx, hs', hy]; exact ho', ?_, fun m p hm => ?_⟩
    · have := ho'.1
      rw [List.length_zipIdx, hs', hy]
      exact this
    · rw [List.getElem?_zipIdx, Nat.zero_add] at hm
      obtain ⟨y, hym, rfl⟩ := Option.map_eq_some_iff.1 hm
      have hml : m < n := by have := (List.getElem?_eq_some_iff.1 hym).1; omega
      obtain ⟨h1, h2, h3⟩ := hp m hml
      have hv : inner[σ m]? = some inner[σ m] := List.getElem?_eq_getElem (by omega)
      have h4 := hat (σ m) y inner[σ m] (h3 ▸ hym) hv
      rw [hv] at h2
      obtain ⟨hl', hv'⟩ := List.getElem?_eq_some_iff.1 h2
      rw [hs', Nat.mul_one, List.drop_eq_getElem_cons hl', List.take_succ_cons, List.take_zero, hv']
      have h5 := D.M_move (w1 := W') (fun k hk => hg.block k hk.2.2.1 (fun he => hk.1.1.2 (by rw [he]; simp [Value.ownBlock]))) (D.M_bound h4)
      refine D.M_mono (fun k hk => ⟨⟨hk.1.1.1, fun he => hk.1.1.2 (he.trans (by simp [Value.ownBlock]))⟩, ?_⟩) h5
      have hk2 : f k = σ m := hk.1.2
      have hex : ∃ m', m' < n ∧ σ m' = f k := ⟨m, hml, hk2.symm⟩
      refine (dif_pos hex).trans ?_
      exact hinj _ _ hex.choose_spec.1 hml (hex.choose_spec.2.trans hk2)
theorem own_cell1 {W : World} {base g n cap : Nat} {e : TypeId} {inner : List Value} (h : W.ownsRow base e 1 (.slice (some ⟨g, 0, none⟩) n cap) n inner) (i : Nat) (v : Value) (hv : inner[i]? = some v) : W.cell? ⟨g, i, none⟩ = some v ∧ W.frozen? ⟨g, i, none⟩ = false := by
  refine ⟨?_, ?_⟩
  · have := h.cells (g := g) (by simp [Value.ownBlock]) i v hv
    rwa [add_plain] at this
  · obtain ⟨cells, hc⟩ := own_typed h g (by simp [Value.ownBlock])
    exact blk_frozen hc _
/-- Two of the rows change places. -/
theorem S_swap {α : Type} {D : Kd α} {e : Nat} {W : World} {base g n cap : Nat} {ok : Nat → Prop} {xs : List α} (h : Kd.S D e W base ok (.slice (some ⟨g, 0, none⟩) n cap) xs) (hs : D.sz = 1) (z : α) (i j : Nat) (hi : i < n) (hj : j < n) (hij : i ≠ j) :
    ∃ vi vj : Value, (W.cell? ⟨g, i, none⟩ = some vi ∧ W.frozen? ⟨g, i, none⟩ = false) ∧ (W.cell? ⟨g, j, none⟩ = some vj ∧ W.frozen? ⟨g, j, none⟩ = false) ∧ D.K W (xs.getD i z) [vi] ∧ D.K W (xs.getD j z) [vj] ∧
      ((W.setCell ⟨g, i, none⟩ vj).cell? ⟨g, j, none⟩ = some vj ∧ (W.setCell ⟨g, i, none⟩ vj).frozen? ⟨g, j, none⟩ = false) ∧
      Kd.S D e ((W.setCell ⟨g, i, none⟩ vj).setCell ⟨g, j, none⟩ vi) base ok (.slice (some ⟨g, 0, none⟩) n cap) ((xs.set i (xs.getD j z)).set j (xs.getD i z)) ∧ W.grownBy ((W.setCell ⟨g, i, none⟩ vj).setCell ⟨g, j, none⟩ vi) (some g) := by
  obtain ⟨inner, hl, hn, ho, hone, hback⟩ := S_places h hs
  have hvi : inner[i]? = some inner[i] := List.getElem?_eq_getElem (by omega)
  have hvj : inner[j]? = some inner[j] := List.getElem?_eq_getElem (by omega)
  obtain ⟨h1, g1⟩ := ho.stored i inner[j]
  obtain ⟨h2, g2⟩ := h1.stored j inner[i]
  have hv2 : (inner.set i inner[j])[j]? = some inner[j] := by rw [List.getElem?_set_ne hij]; exact hvj
  have hg := World.grownBy.trans g1 g2
  refine ⟨inner[i], inner[j], own_cell1 ho i _ hvi, own_cell1 ho j _ hvj, hone i _ _ (by rw [List.getD_eq_getElem?_getD, List.getElem?_eq_getElem (by omega)]; rfl) hvi, hone j _ _ (by rw [List.getD_eq_getElem?_getD, List.getElem?_eq_getElem (by omega)]; rfl) hvj, own_cell1 h1 j _ hv2, ?_, hg⟩
  refine hback (fun m => if m = i then j else if m = j then i else m) _ _ _ (fun m hm => ?_) (fun a b ha hb hab => ?_) (by simp [hn]) h2 hg
  · refine ⟨by (show (if m = i then j else if m = j then i else m) < n); split; omega; split <;> omega, ?_, ?_⟩
    · by_cases hmj : m = j
      · subst hmj
        rw [List.getElem?_set_self (by simp [hl]; omega), if_neg (Ne.symm hij), if_pos rfl, hvi]
      · rw [List.getElem?_set_ne (Ne.symm hmj)]
        by_cases hmi : m = i
        · subst hmi
          rw [List.getElem?_set_self (by omega), if_pos rfl, hvj]
        · rw [List.getElem?_set_ne (Ne.symm hmi), if_neg hmi, if_neg hmj]
    · by_cases hmj : m = j
      · subst hmj
        rw [List.getElem?_set_self (by simp [hn]; omega), if_neg (Ne.symm hij), if_pos rfl, List.getElem?_eq_getElem (by omega), List.getD_eq_getElem?_getD, List.getElem?_eq_getElem (by omega)]
        rfl
      · rw [List.getElem?_set_ne (Ne.symm hmj)]
        by_cases hmi : m = i
        · subst hmi
          rw [List.getElem?_set_self (by omega), if_pos rfl, List.getElem?_eq_getElem (show j < xs.length by omega), List.getD_eq_getElem?_getD, List.getElem?_eq_getElem (by omega)]
          rfl
        · rw [List.getElem?_set_ne (Ne.symm hmi), if_neg hmi, if_neg hmj]
  · replace hab : (if a = i then j else if a = j then i else a) = (if b = i then j else if b = j then i else b) := hab
    split at hab <;> split at hab <;> (try split at hab) <;> (try split at hab) <;> omega

/-! ### slices_Reverse: function 39, told by hand -/
def slices_Reverse.l0 : Nat → List (List Int) → Int → Int → Option (List (List Int))
  | 0, _, _, _ => none
  | k + 1, x0, x2, x3 => if x2 < x3 then (if 0 ≤ x2 then (if x3 < (x0.length : Int) then (slices_Reverse.l0 k ((x0.set x2.toNat (x0.getD x3.toNat [])).set x3.toNat (x0.getD x2.toNat [])) (wrap64 (x2 + 1)) (wrap64 (x3 - 1))) else (none)) else (none)) else (some x0)
def slices_Reverse.f (k : Nat) (l0 : List (List Int)) : Option (List (List Int)) := slices_Reverse.l0 k l0 0 (wrap64 ((l0.length : Int) - 1))
theorem slices_Reverse.mono_l : ∀ k, (∀ y0 y1 y2, LeO (slices_Reverse.l0 k y0 y1 y2) (slices_Reverse.l0 (k + 1) y0 y1 y2))
  | 0 => fun _ _ _ r h => by simp [slices_Reverse.l0] at h
  | k + 1 => by
    have ih0 := slices_Reverse.mono_l k
    intro y0 y1 y2
    unfold slices_Reverse.l0
    repeat' first
      | (with_reducible exact ih0 _ _ _)
      | (with_reducible exact LeO.refl _)
      | (with_reducible exact LeO.none _)
      | (with_reducible refine LeO.ite ?_ ?_)
      | (with_reducible refine LeO.bind ?_ (fun _ => ?_))
      | exact ih0 _ _ _
      | exact LeO.none _
      | refine LeO.ite ?_ ?_
      | refine LeO.bind ?_ (fun _ => ?_)
theorem slices_Reverse.mono : ∀ a0 k, LeO (slices_Reverse.f k a0) (slices_Reverse.f (k + 1) a0) := by
  intro a0 k
  have ih0 := slices_Reverse.mono_l k
  unfold slices_Reverse.f
  repeat' first
      | (with_reducible exact ih0 _ _ _)
      | (with_reducible exact LeO.refl _)
      | (with_reducible exact LeO.none _)
      | (with_reducible refine LeO.ite ?_ ?_)
      | (with_reducible refine LeO.bind ?_ (fun _ => ?_))
      | exact ih0 _ _ _
      | exact LeO.none _
      | refine LeO.ite ?_ ?_
      | refine LeO.bind ?_ (fun _ => ?_)
set_option maxHeartbeats 8000000 in
set_option maxRecDepth 100000 in
theorem slices_Reverse.calls (k : Nat) (P0_ : Nat → Prop) (u9000_ : Value) (l0 : List (List Int)) (r1 : List (List Int)) (w0 w : World) (hB : Below w0.heap.size w0 w) (ho0 : Kd.S (Kd.slice 3 (Kd.int .i64)) 22 w w0.heap.size P0_ u9000_ l0) (h : slices_Reverse.f k l0 = some r1) :
    Calls Try.prog 39 #[u9000_] w fun e w' => e = .returned (.tuple #[]) ∧ Kd.S (Kd.slice 3 (Kd.int .i64)) 22 w' w0.heap.size P0_ u9000_ r1 ∧ Below w0.heap.size w0 w' ∧ Kept w w' P0_ := by
  have HO0 := Aside0.mk ho0
  have HK := Aside0.mk (Kept.refl w P0_)
  have HB := Aside0.mk hB
  clear ho0 hB
  have H' := Aside0.mk (show (slices_Reverse.l0 k l0 0 (wrap64 ((l0.length : Int) - 1))) = some r1 from h)
  clear h
  obtain ⟨A0, c0, eu⟩ := Kd.S_slice HO0.out
  subst eu
  go_enter Try.func39, Try.ntmps39
  go_wp2
  go_loopg [2, 3] k (fun kq v2 v3 w' => ∃ (x0_1 : List (List Int)) (x2_1 : Int) (x3_1 : Int), v2 = .int .i64 x2_1 ∧ v3 = .int .i64 x3_1 ∧ Aside0 (slices_Reverse.l0 kq x0_1 x2_1 x3_1 = some r1) ∧ Aside0 (kq ≤ k) ∧ Aside0 (Kd.S (Kd.slice 3 (Kd.int .i64)) 22 w' w0.heap.size P0_ (.slice A0 l0.length c0) x0_1) ∧ Aside0 (Kept w w' P0_) ∧ Aside0 (Below w0.heap.size w0 w'))
  case atStart => exact ⟨(l0), (0), _, (by first | rfl | (simp; done) | (simp [*]; done)), (by first | rfl | (simp; done) | (simp [*]; done)), H', ⟨Nat.le_refl _⟩, ⟨by (with_reducible repeat (first | apply Kd.S_alloc | apply Kd.S_drewN | apply Kd.S_drew)); exact HO0.out⟩, ⟨by repeat (first | (with_reducible first | exact HK.out | apply Kept.alloc | apply Kept.drewN | apply Kept.drew) | exact HK.out)⟩, ⟨by repeat (first | (with_reducible first | exact HB.out | apply below_alloc | apply pw_below_drewN | apply below_drew1) | exact HB.out)⟩⟩
  case round =>
    clear H' HO0 HK HB
    obtain ⟨x0_1, x2_1, x3_1, rfl, rfl, HA, HK1, HO_0, HK, HB⟩ := hrel
    cases gk with
    | zero => exact absurd HA.out (by simp [slices_Reverse.l0])
    | succ k1 =>
      have H := HA.out
      clear HA
      simp only [slices_Reverse.l0] at H
      by_cases c2 : x2_1 < x3_1
      · rw [if_pos c2] at H
        have c2b0 : decide (x2_1 < x3_1) = true := decide_eq_true c2
        by_cases c3 : 0 ≤ x2_1
        case neg => rw [if_neg c3] at H; exact absurd H (by simp)
        rw [if_pos c3] at H
        by_cases c4 : x3_1 < (x0_1.length : Int)
        case neg => rw [if_neg c4] at H; exact absurd H (by simp)
        rw [if_pos c4] at H
        have H' := Aside0.mk H
        clear H
        obtain ⟨go5, co5, eo5, gb5, gl5, HG5⟩ := Kd.S_form HO_0.out (by omega)
        injection eo5 with ea5 en5 ec5
        have hl5 := Aside0.mk en5
        clear en5
        subst ea5
        subst ec5
        clear gb5 gl5 HG5
        have HOw := Aside0.mk (Kd.S_drew HO_0.out)
        have HKw := Aside0.mk (Kept.drew HK.out)
        have HBw := Aside0.mk (below_drew1 HB.out)
        clear HO_0 HK HB
        have p2 : x2_1.toNat < l0.length := by have := hl5.out; omega
        have p3 : x3_1.toNat < l0.length := by have := hl5.out; omega
        have e2 : decide (0 ≤ x2_1) = true := decide_eq_true c3
        have e3 : decide (0 ≤ x3_1) = true := decide_eq_true (by omega)
        have e4 : decide (x2_1 < (l0.length : Int)) = true := decide_eq_true (by omega)
        have e5 : decide (x3_1 < (l0.length : Int)) = true := decide_eq_true (by omega)
        have i2 : 0 ≤ x2_1 := c3
        have i3 : 0 ≤ x3_1 := by omega
        have i4 : x2_1 < (l0.length : Int) := by omega
        have i5 : x3_1 < (l0.length : Int) := by omega
        obtain ⟨vi, vj, ⟨hvi, hfi⟩, ⟨hvj, hfj⟩, ⟨Ai, ci, ei, _⟩, ⟨Aj, cj, ej, _⟩, ⟨hvj2, hfj2⟩, hS, hgr⟩ := S_swap HOw.out rfl [] x2_1.toNat x3_1.toNat p2 p3 (by omega)
        injection ei with ei _
        injection ej with ej _
        subst ei
        subst ej
        have HS := Aside0.mk hS
        have HGR := Aside0.mk hgr
        have HOWN := Aside0.mk (HOw.out.choose_spec.1 go5 (by simp [Value.ownBlock]))
        have HGE := Aside0.mk (Kd.S_base HOw.out go5 (by simp [Value.ownBlock]))
        clear hS hgr HOw
        try go_wp2
        refine start_ (n := 16) (S := fun w' => w'.cell? ⟨go5, x3_1.toNat, none⟩ = some (.slice Aj (x0_1.getD x3_1.toNat []).length cj) ∧ w'.cell? ⟨go5, x2_1.toNat, none⟩ = some (.slice Ai (x0_1.getD x2_1.toNat []).length ci)) (ds := [13, 15]) #[false, false, false, false, false, false, false, false, false, false, false, false, false, false, false, false] (by kernel_rfl) rfl rfl ⟨hvj, hvi⟩ (fun hHeld => ?_)
        generalize wr.drew = w3 at HS HGR hvi hfi hvj hfj hvj2 hfj2 HKw HBw hHeld ⊢
        refine pure_ (i := 0) (N := some 14) (v := ?_) (a' := ?_) #[true, false, false, false, false, false, false, false, false, false, false, false, false, false, false, false] rfl rfl (by kernel_rfl) (fun _ _ _ h => h) (Or.inl ⟨by rfl, ?_⟩) ?_ ?_
        rotate_left
        · intro w'
          go_simp
          with_reducible rfl
        rotate_left
        · simp only [Act.put, List.setIfInBounds_toArray, List.set_cons_zero, List.set_cons_succ, i64_w, i32_w]
          rfl
        refine pure_ (i := 1) (N := some 15) (v := ?_) (a' := ?_) #[true, true, false, false, false, false, false, false, false, false, false, false, false, false, false, false] rfl rfl (by kernel_rfl) (fun _ _ _ h => h) (Or.inl ⟨by rfl, ?_⟩) ?_ ?_
        rotate_left
        · intro w'
          go_simp
          with_reducible rfl
        rotate_left
        · simp only [Act.put, List.setIfInBounds_toArray, List.set_cons_zero, List.set_cons_succ, i64_w, i32_w]
          rfl
        refine pure_ (i := 2) (N := some 16) (v := ?_) (a' := ?_) #[true, true, true, false, false, false, false, false, false, false, false, false, false, false, false, false] rfl rfl (by kernel_rfl) (fun _ _ _ h => h) (Or.inl ⟨by rfl, ?_⟩) ?_ ?_
        rotate_left
        · intro w'
          go_simp
          with_reducible rfl
        rotate_left
        · simp only [Act.put, List.setIfInBounds_toArray, List.set_cons_zero, List.set_cons_succ, i64_w, i32_w]
          rfl
        refine pure_ (i := 3) (N := some 17) (v := ?_) (a' := ?_) #[true, true, true, true, false, false, false, false, false, false, false, false, false, false, false, false] rfl rfl (by kernel_rfl) (fun _ _ _ h => h) (Or.inl ⟨by rfl, ?_⟩) ?_ ?_
        rotate_left
        · intro w'
          go_simp
          with_reducible rfl
        rotate_left
        · simp only [Act.put, List.setIfInBounds_toArray, List.set_cons_zero, List.set_cons_succ, i64_w, i32_w]
          rfl
        refine pure_ (i := 4) (N := some 18) (v := ?_) (a' := ?_) #[true, true, true, true, true, false, false, false, false, false, false, false, false, false, false, false] rfl rfl (by kernel_rfl) (fun _ _ _ h => h) (Or.inl ⟨by rfl, ?_⟩) ?_ ?_
        rotate_left
        · intro w'
          go_simp
          with_reducible rfl
        rotate_left
        · simp only [Act.put, List.setIfInBounds_toArray, List.set_cons_zero, List.set_cons_succ, i64_w, i32_w]
          rfl
        refine pure_ (i := 5) (N := some 19) (v := ?_) (a' := ?_) #[true, true, true, true, true, true, false, false, false, false, false, false, false, false, false, false] rfl rfl (by kernel_rfl) (fun _ _ _ h => h) (Or.inl ⟨by rfl, ?_⟩) ?_ ?_
        rotate_left
        · intro w'
          go_simp
          with_reducible rfl
        rotate_left
        · simp only [Act.put, List.setIfInBounds_toArray, List.set_cons_zero, List.set_cons_succ, i64_w, i32_w]
          rfl
        refine pure_ (i := 6) (N := some 20) (v := ?_) (a' := ?_) #[true, true, true, true, true, true, true, false, false, false, false, false, false, false, false, false] rfl rfl (by kernel_rfl) (fun _ _ _ h => h) (Or.inl ⟨by rfl, ?_⟩) ?_ ?_
        rotate_left
        · intro w'
          go_simp
          with_reducible rfl
        rotate_left
        · simp only [Act.put, List.setIfInBounds_toArray, List.set_cons_zero, List.set_cons_succ, i64_w, i32_w]
          rfl
        refine take_ (i := 7) (N := some 21) (v := ?_) (a' := ?_) #[true, true, true, true, true, true, true, true, false, false, false, false, false, false, false, false] rfl rfl (by kernel_rfl) (fun _ _ _ h => h) (Or.inl ⟨by rfl, ?_⟩) hHeld ?_ ?_
        rotate_left
        · rintro w' ⟨s0, s1⟩
          go_simp
          with_reducible rfl
        rotate_left
        · simp only [Act.put, List.setIfInBounds_toArray, List.set_cons_zero, List.set_cons_succ, i64_w, i32_w]
          rfl
        refine pure_ (i := 8) (N := some 22) (v := ?_) (a' := ?_) #[true, true, true, true, true, true, true, true, true, false, false, false, false, false, false, false] rfl rfl (by kernel_rfl) (fun _ _ _ h => h) (Or.inl ⟨by rfl, ?_⟩) ?_ ?_
        rotate_left
        · intro w'
          go_simp
          with_reducible rfl
        rotate_left
        · simp only [Act.put, List.setIfInBounds_toArray, List.set_cons_zero, List.set_cons_succ, i64_w, i32_w]
          rfl
        refine pure_ (i := 9) (N := some 23) (v := ?_) (a' := ?_) #[true, true, true, true, true, true, true, true, true, true, false, false, false, false, false, false] rfl rfl (by kernel_rfl) (fun _ _ _ h => h) (Or.inl ⟨by rfl, ?_⟩) ?_ ?_
        rotate_left
        · intro w'
          go_simp
          with_reducible rfl
        rotate_left
        · simp only [Act.put, List.setIfInBounds_toArray, List.set_cons_zero, List.set_cons_succ, i64_w, i32_w]
          rfl
        refine pure_ (i := 10) (N := some 24) (v := ?_) (a' := ?_) #[true, true, true, true, true, true, true, true, true, true, true, false, false, false, false, false] rfl rfl (by kernel_rfl) (fun _ _ _ h => h) (Or.inl ⟨by rfl, ?_⟩) ?_ ?_
        rotate_left
        · intro w'
          go_simp
          with_reducible rfl
        rotate_left
        · simp only [Act.put, List.setIfInBounds_toArray, List.set_cons_zero, List.set_cons_succ, i64_w, i32_w]
          rfl
        refine take_ (i := 11) (N := some 25) (v := ?_) (a' := ?_) #[true, true, true, true, true, true, true, true, true, true, true, true, false, false, false, false] rfl rfl (by kernel_rfl) (fun _ _ _ h => h) (Or.inl ⟨by rfl, ?_⟩) hHeld ?_ ?_
        rotate_left
        · rintro w' ⟨s0, s1⟩
          go_simp
          with_reducible rfl
        rotate_left
        · simp only [Act.put, List.setIfInBounds_toArray, List.set_cons_zero, List.set_cons_succ, i64_w, i32_w]
          rfl
        refine pure_ (i := 12) (N := some 26) (v := ?_) (a' := ?_) #[true, true, true, true, true, true, true, true, true, true, true, true, true, false, false, false] rfl rfl (by kernel_rfl) (fun _ _ _ h => h) (Or.inl ⟨by rfl, ?_⟩) ?_ ?_
        rotate_left
        · intro w'
          go_simp
          with_reducible rfl
        rotate_left
        · simp only [Act.put, List.setIfInBounds_toArray, List.set_cons_zero, List.set_cons_succ, i64_w, i32_w]
          rfl
        refine last_ (i := 13) (N := none) #[true, true, true, true, true, true, true, true, true, true, true, true, true, true, false, false] rfl rfl (by kernel_rfl) (by decide) (fun K hK => ?_)
        refine skip_ (w1 := w3.setCell ⟨go5, x2_1.toNat, none⟩ (.slice Aj (x0_1.getD x3_1.toNat []).length cj)) (by rfl) rfl ?_ ?_
        · first | (go_simp; done) | (go_simp; rfl)
        refine hK.out _ _ ?_
        clear hK K
        refine pure_ (i := 14) (N := some 27) (v := ?_) (a' := ?_) #[true, true, true, true, true, true, true, true, true, true, true, true, true, true, true, false] rfl rfl (by kernel_rfl) (fun _ _ _ h => h) (Or.inl ⟨by rfl, ?_⟩) ?_ ?_
        rotate_left
        · intro w'
          go_simp
          with_reducible rfl
        rotate_left
        · simp only [Act.put, List.setIfInBounds_toArray, List.set_cons_zero, List.set_cons_succ, i64_w, i32_w]
          rfl
        refine last_ (i := 15) (N := none) #[true, true, true, true, true, true, true, true, true, true, true, true, true, true, true, true] rfl rfl (by kernel_rfl) (by decide) (fun K hK => ?_)
        refine skip_ (w1 := (w3.setCell ⟨go5, x2_1.toNat, none⟩ (.slice Aj (x0_1.getD x3_1.toNat []).length cj)).setCell ⟨go5, x3_1.toNat, none⟩ (.slice Ai (x0_1.getD x2_1.toNat []).length ci)) (by rfl) rfl ?_ ?_
        · first | (go_simp; done) | (go_simp; rfl)
        refine hK.out _ _ ?_
        clear hK K
        refine done_ (by kernel_rfl) ?_
        clear hvi hfi hvj hfj hvj2 hfj2
        have HK := Aside0.mk (Kept.of_grown HGR.out HKw.out (fun k_ e_ => .inl (by injection e_ with e_; rw [← e_]; exact HOWN.out)))
        have HB := Aside0.mk (show Below w0.heap.size w0 (((w3.setCell ⟨go5, x2_1.toNat, none⟩ (.slice Aj (x0_1.getD x3_1.toNat []).length cj)).setCell ⟨go5, x3_1.toNat, none⟩ (.slice Ai (x0_1.getD x2_1.toNat []).length ci))) from below_set (below_set HBw.out HGE.out) HGE.out)
        clear HGR HKw HBw
        generalize ((w3.setCell ⟨go5, x2_1.toNat, none⟩ (.slice Aj (x0_1.getD x3_1.toNat []).length cj)).setCell ⟨go5, x3_1.toNat, none⟩ (.slice Ai (x0_1.getD x2_1.toNat []).length ci)) = w4 at HS HK HB ⊢
        go_wp2
        go_roundg k1
        case measure => have := HK1.out; omega
        case rel => exact ⟨_, _, _, (by first | rfl | (simp; done) | (simp [*]; done)), (by first | rfl | (simp; done) | (simp [*]; done)), H', ⟨by have := HK1.out; omega⟩, HS, HK, HB⟩
      · rw [if_neg c2] at H
        have c2b0 : decide (x2_1 < x3_1) = false := decide_eq_false c2
        clear c2
        obtain rfl := Option.some.inj H
        go_wp2
        go_end0
        exact ⟨rfl, HO_0.out, HB.out, HK.out⟩


/-! ### impl_ReverseLanes: function 20, told by hand -/
def impl_ReverseLanes.f (k : Nat) (l0 : List (List Int)) : Option ((List (List Int))) := (impl_copyLists.f k l0).bind fun t1 => (slices_Reverse.f k t1)
theorem impl_ReverseLanes.mono : ∀ a0 k, LeO (impl_ReverseLanes.f k a0) (impl_ReverseLanes.f (k + 1) a0) := by
  intro a0 k
  unfold impl_ReverseLanes.f
  repeat' first
      | (with_reducible exact impl_copyLists.mono _ _)
      | (with_reducible exact slices_Reverse.mono _ _)
      | (with_reducible exact LeO.refl _)
      | (with_reducible exact LeO.none _)
      | (with_reducible refine LeO.ite ?_ ?_)
      | (with_reducible refine LeO.bind ?_ (fun _ => ?_))
      | exact impl_copyLists.mono _ _
      | exact slices_Reverse.mono _ _
      | exact LeO.none _
      | refine LeO.ite ?_ ?_
      | refine LeO.bind ?_ (fun _ => ?_)
set_option maxHeartbeats 8000000 in
set_option maxRecDepth 100000 in
theorem impl_ReverseLanes.calls (k : Nat) (A0 : Option Addr) (c0 : Nat) (l0 : List (List Int)) (r : List (List Int)) (w : World) (hr0 : Kd.C (Kd.slice 3 (Kd.int .i64)) w A0 l0.length l0) (hc0 : l0.length ≤ c0) (h : impl_ReverseLanes.f k l0 = some r) :
    Calls Try.prog 20 #[.slice A0 l0.length c0] w fun e w' => ∃ v0_ : Value, e = .returned (v0_) ∧ Kd.S (Kd.slice 3 (Kd.int .i64)) 22 w' w.heap.size (fun _ => True) v0_ r ∧ Below w.heap.size w w' := by
  have HR0 := Aside0.mk hr0
  have HC0 := Aside0.mk hc0
  clear hr0 hc0
  unfold impl_ReverseLanes.f at h
  obtain ⟨t1, A10, A20⟩ := Option.bind_eq_some_iff.mp h
  have A1 := Aside0.mk A10
  have A2 := Aside0.mk A20
  clear h A10 A20
  go_enter Try.func20, Try.ntmps20
  go_wp2_with fail
  (with_reducible refine (impl_copyLists.calls k _ _ l0 t1 _ HR0.out HC0.out A1.out).mono ?_)
  rintro e w1_ ⟨v0_, rfl, ho, hb⟩
  obtain ⟨Ao1, co1, ev⟩ := Kd.S_slice ho
  subst ev
  have HO := Aside0.mk ho
  have HB := Aside0.mk hb
  clear ho hb
  go_wp2_with fail
  (with_reducible refine (slices_Reverse.calls k (fun _ => True) _ t1 r w _ HB.out HO.out A2.out).mono ?_)
  rintro e w2_ ⟨rfl, hs, hb, hk⟩
  replace hs := Aside0.mk hs
  replace hb := Aside0.mk hb
  clear HO HB hk
  go_wp2
  go_ret
  exact ⟨_, rfl, hs.out, hb.out⟩


theorem if_true_ {c : Prop} [Decidable c] {a : Option Bool} (h : (if c then a else (some false)) = some true) : c ∧ a = some true := by
  by_cases hc : c
  · rw [if_pos hc] at h; exact ⟨hc, h⟩
  · rw [if_neg hc] at h; simp at h
theorem calls_cast {P : Program} {n : Nat} {a b : Array Value} {w : World} {Q : Ending → World → Prop} (h : a = b) (hc : Calls P n a w Q) : Calls P n b w Q := h ▸ hc

/-! ### laws_FnExactReverseLanes: function 4, all its calls in a row -/
def laws_FnExactReverseLanes.f (k : Nat) (l0 : List (List Int)) : Option (Bool) := ((laws_szIntSS.f k l0 1048576).bind fun t1 => (if t1 < 0 then (some true) else ((laws_toIntSS.f k l0).bind fun t2 => ((spec_ReverseLanes.f k t2).bind fun t3 => ((laws_toIntSS.f k l0).bind fun t4 => ((impl_ReverseLanes.f k t4).bind fun t5 => ((laws_eqIntSS.f k t5 t3).bind fun t6 => (if t6 = true then ((laws_toIntSS.f k l0).bind fun t7 => ((laws_eqIntSS.f k t4 t7).bind fun t8 => (if t8 = true then ((laws_markIntSS.f k t4 1).bind fun ⟨t9, t10⟩ => (if ¬ (t9 < 0) then ((laws_eqIntSS.f k t5 t3).bind fun t11 => (if t11 = true then ((laws_markIntSS.f k t5 1).bind fun ⟨t12, t13⟩ => ((laws_heldIntSS.f k t13 1).bind fun t14 => (if ¬ (t14 < 0) then (if t12 = t14 then ((laws_toIntSS.f k l0).bind fun t15 => ((impl_ReverseLanes.f k t15).bind fun t16 => ((laws_eqIntSS.f k t16 t3).bind fun t17 => (if t17 = true then ((laws_heldIntSS.f k t13 1).bind fun t18 => (if ¬ (t18 < 0) then (if t12 = t18 then (some true) else (some false)) else (some false))) else (some false))))) else (some false)) else (some false)))) else (some false))) else (some false))) else (some false)))) else (some false)))))))))
set_option maxHeartbeats 8000000 in
set_option maxRecDepth 100000 in
theorem laws_FnExactReverseLanes.calls (k : Nat) (A0 : Option Addr) (c0 : Nat) (l0 : List (List Int)) (r : Bool) (w : World) (hr0 : Kd.C (Kd.slice 3 (Kd.int .i64)) w A0 l0.length l0) (hc0 : l0.length ≤ c0) (hrt : Aside0 (r = true)) (h : laws_FnExactReverseLanes.f k l0 = some r) :
    Calls Try.prog 4 #[.slice A0 l0.length c0] w fun e w' => e = .returned (.bool r) ∧ Below w.heap.size w w' := by
  have HR0 := Aside0.mk hr0
  have HC0 := Aside0.mk hc0
  clear hr0 hc0
  obtain rfl := hrt.out
  clear hrt
  have HB := Aside0.mk (Below.refl w.heap.size w)
  unfold laws_FnExactReverseLanes.f at h
  have H := h
  clear h
  replace H := Option.bind_eq_some_iff.mp H
  obtain ⟨t1, A1_0, H⟩ := H
  have A1 := Aside0.mk A1_0
  clear A1_0
  by_cases hc4_ : t1 < 0
  case pos =>
    clear H
    have hc4_b0 : decide (t1 < 0) = true := decide_eq_true hc4_
    clear hc4_
    go_enter Try.func4, Try.ntmps4
    go_wp2_with fail
    (with_reducible refine (laws_szIntSS.calls k _ _ l0 1048576 t1 _ (Kd.C_below HR0.out HB.out) HC0.out A1.out).mono ?_)
    rintro e w1_ ⟨rfl, hb⟩
    replace hb := Drawn0.below hb
    have hs1 := Aside0.mk hb.size
    replace HB := Aside0.mk (below_then HB.out HB.out.size hb)
    clear hb 
    go_wp2
    go_ret
    exact ⟨rfl, HB.out⟩
  rw [if_neg hc4_] at H
  have hc4_b0 : decide (t1 < 0) = false := decide_eq_false hc4_
  clear hc4_
  replace H := Option.bind_eq_some_iff.mp H
  obtain ⟨t2, A2_0, H⟩ := H
  have A2 := Aside0.mk A2_0
  clear A2_0
  replace H := Option.bind_eq_some_iff.mp H
  obtain ⟨t3, A3_0, H⟩ := H
  have A3 := Aside0.mk A3_0
  clear A3_0
  replace H := Option.bind_eq_some_iff.mp H
  obtain ⟨t4, A4_0, H⟩ := H
  have A4 := Aside0.mk A4_0
  clear A4_0
  replace H := Option.bind_eq_some_iff.mp H
  obtain ⟨t5, A5_0, H⟩ := H
  have A5 := Aside0.mk A5_0
  clear A5_0
  replace H := Option.bind_eq_some_iff.mp H
  obtain ⟨t6, A6_0, H⟩ := H
  have A6 := Aside0.mk A6_0
  clear A6_0
  replace H := if_true_ H
  obtain ⟨hc43_, H⟩ := H
  subst hc43_
  replace H := Option.bind_eq_some_iff.mp H
  obtain ⟨t7, A7_0, H⟩ := H
  have A7 := Aside0.mk A7_0
  clear A7_0
  replace H := Option.bind_eq_some_iff.mp H
  obtain ⟨t8, A8_0, H⟩ := H
  have A8 := Aside0.mk A8_0
  clear A8_0
  replace H := if_true_ H
  obtain ⟨hc54_, H⟩ := H
  subst hc54_
  replace H := Option.bind_eq_some_iff.mp H
  obtain ⟨⟨t9, t10⟩, A9_0, H⟩ := H
  have A9 := Aside0.mk A9_0
  clear A9_0
  replace H := if_true_ H
  obtain ⟨hc61_, H⟩ := H
  have hc61_b0 : decide (t9 < 0) = false := decide_eq_false hc61_
  clear hc61_
  replace H := Option.bind_eq_some_iff.mp H
  obtain ⟨t11, A10_0, H⟩ := H
  have A10 := Aside0.mk A10_0
  clear A10_0
  replace H := if_true_ H
  obtain ⟨hc69_, H⟩ := H
  subst hc69_
  replace H := Option.bind_eq_some_iff.mp H
  obtain ⟨⟨t12, t13⟩, A11_0, H⟩ := H
  have A11 := Aside0.mk A11_0
  clear A11_0
  replace H := Option.bind_eq_some_iff.mp H
  obtain ⟨t14, A12_0, H⟩ := H
  have A12 := Aside0.mk A12_0
  clear A12_0
  replace H := if_true_ H
  obtain ⟨hc80_, H⟩ := H
  have hc80_b0 : decide (t14 < 0) = false := decide_eq_false hc80_
  clear hc80_
  replace H := if_true_ H
  obtain ⟨hc84_, H⟩ := H
  subst hc84_
  replace H := Option.bind_eq_some_iff.mp H
  obtain ⟨t15, A13_0, H⟩ := H
  have A13 := Aside0.mk A13_0
  clear A13_0
  replace H := Option.bind_eq_some_iff.mp H
  obtain ⟨t16, A14_0, H⟩ := H
  have A14 := Aside0.mk A14_0
  clear A14_0
  replace H := Option.bind_eq_some_iff.mp H
  obtain ⟨t17, A15_0, H⟩ := H
  have A15 := Aside0.mk A15_0
  clear A15_0
  replace H := if_true_ H
  obtain ⟨hc99_, H⟩ := H
  subst hc99_
  replace H := Option.bind_eq_some_iff.mp H
  obtain ⟨t18, A16_0, H⟩ := H
  have A16 := Aside0.mk A16_0
  clear A16_0
  replace H := if_true_ H
  obtain ⟨hc106_, H⟩ := H
  have hc106_b0 : decide (t18 < 0) = false := decide_eq_false hc106_
  clear hc106_
  replace H := if_true_ H
  obtain ⟨hc110_, H⟩ := H
  subst hc110_
  clear H
  go_enter Try.func4, Try.ntmps4
  go_wp2_with fail
  (with_reducible refine (laws_szIntSS.calls k _ _ l0 1048576 t1 _ (Kd.C_below HR0.out HB.out) HC0.out A1.out).mono ?_)
  rintro e w1_ ⟨rfl, hb⟩
  replace hb := Drawn0.below hb
  have hs1 := Aside0.mk hb.size
  replace HB := Aside0.mk (below_then HB.out HB.out.size hb)
  clear hb 
  go_wp2_with fail
  (with_reducible refine (laws_toIntSS.calls k _ _ l0 t2 _ (Kd.C_below HR0.out HB.out) HC0.out A2.out).mono ?_)
  rintro e w2_ ⟨v0_, rfl, ho0_, hb⟩
  have hs2 := Aside0.mk hb.size
  obtain ⟨Ao2_0, co2_0, ev_⟩ := Kd.S_slice ho0_
  subst ev_
  have HO2_0 := Aside0.mk (Kd.S_lower (Kd.S_mono (ok' := (fun k_ => w1_.heap.size ≤ k_ ∧ k_ < w2_.heap.size)) (Kd.S_bound ho0_) (fun k_ hk_ => ⟨hk_.2.1, hk_.2.2.1⟩)) HB.out.size)
  replace HB := Aside0.mk (below_then HB.out HB.out.size hb)
  clear hb ho0_
  go_wp2_with fail
  (with_reducible refine (spec_ReverseLanes.calls k _ _ t2 t3 _ (Kd.S_reads' HO2_0.out).2.2 (Kd.S_reads' HO2_0.out).2.1 A3.out).mono ?_)
  rintro e w3_ ⟨v0_, rfl, ho0_, hb⟩
  have hs3 := Aside0.mk hb.size
  replace HO2_0 := Aside0.mk (Kd.S_below HO2_0.out hb)
  obtain ⟨Ao3_0, co3_0, ev_⟩ := Kd.S_slice ho0_
  subst ev_
  have HO3_0 := Aside0.mk (Kd.S_lower (Kd.S_mono (ok' := (fun k_ => w2_.heap.size ≤ k_ ∧ k_ < w3_.heap.size)) (Kd.S_bound ho0_) (fun k_ hk_ => ⟨hk_.2.1, hk_.2.2.1⟩)) HB.out.size)
  replace HB := Aside0.mk (below_then HB.out HB.out.size hb)
  clear hb ho0_
  go_wp2_with fail
  (with_reducible refine (laws_toIntSS.calls k _ _ l0 t4 _ (Kd.C_below HR0.out HB.out) HC0.out A4.out).mono ?_)
  rintro e w4_ ⟨v0_, rfl, ho0_, hb⟩
  have hs4 := Aside0.mk hb.size
  replace HO2_0 := Aside0.mk (Kd.S_below HO2_0.out hb)
  replace HO3_0 := Aside0.mk (Kd.S_below HO3_0.out hb)
  obtain ⟨Ao4_0, co4_0, ev_⟩ := Kd.S_slice ho0_
  subst ev_
  have HO4_0 := Aside0.mk (Kd.S_lower (Kd.S_mono (ok' := (fun k_ => w3_.heap.size ≤ k_ ∧ k_ < w4_.heap.size)) (Kd.S_bound ho0_) (fun k_ hk_ => ⟨hk_.2.1, hk_.2.2.1⟩)) HB.out.size)
  replace HB := Aside0.mk (below_then HB.out HB.out.size hb)
  clear hb ho0_
  go_wp2_with fail
  (with_reducible refine (impl_ReverseLanes.calls k _ _ t4 t5 _ (Kd.S_reads' HO4_0.out).2.2 (Kd.S_reads' HO4_0.out).2.1 A5.out).mono ?_)
  rintro e w5_ ⟨v0_, rfl, ho0_, hb⟩
  have hs5 := Aside0.mk hb.size
  replace HO2_0 := Aside0.mk (Kd.S_below HO2_0.out hb)
  replace HO3_0 := Aside0.mk (Kd.S_below HO3_0.out hb)
  replace HO4_0 := Aside0.mk (Kd.S_below HO4_0.out hb)
  obtain ⟨Ao5_0, co5_0, ev_⟩ := Kd.S_slice ho0_
  subst ev_
  have HO5_0 := Aside0.mk (Kd.S_lower (Kd.S_mono (ok' := (fun k_ => w4_.heap.size ≤ k_ ∧ k_ < w5_.heap.size)) (Kd.S_bound ho0_) (fun k_ hk_ => ⟨hk_.2.1, hk_.2.2.1⟩)) HB.out.size)
  replace HB := Aside0.mk (below_then HB.out HB.out.size hb)
  clear hb ho0_
  go_wp2_with fail
  (with_reducible refine (laws_eqIntSS.calls k _ _ t5 _ _ t3 true _ (Kd.S_reads' HO5_0.out).2.2 (Kd.S_reads' HO5_0.out).2.1 (Kd.S_reads' HO3_0.out).2.2 (Kd.S_reads' HO3_0.out).2.1 A6.out).mono ?_)
  rintro e w6_ ⟨rfl, hb⟩
  replace hb := Drawn0.below hb
  have hs6 := Aside0.mk hb.size
  replace HO2_0 := Aside0.mk (Kd.S_below HO2_0.out hb)
  replace HO3_0 := Aside0.mk (Kd.S_below HO3_0.out hb)
  replace HO4_0 := Aside0.mk (Kd.S_below HO4_0.out hb)
  replace HO5_0 := Aside0.mk (Kd.S_below HO5_0.out hb)
  replace HB := Aside0.mk (below_then HB.out HB.out.size hb)
  clear hb 
  go_wp2_with fail
  (with_reducible refine (laws_toIntSS.calls k _ _ l0 t7 _ (Kd.C_below HR0.out HB.out) HC0.out A7.out).mono ?_)
  rintro e w7_ ⟨v0_, rfl, ho0_, hb⟩
  have hs7 := Aside0.mk hb.size
  replace HO2_0 := Aside0.mk (Kd.S_below HO2_0.out hb)
  replace HO3_0 := Aside0.mk (Kd.S_below HO3_0.out hb)
  replace HO4_0 := Aside0.mk (Kd.S_below HO4_0.out hb)
  replace HO5_0 := Aside0.mk (Kd.S_below HO5_0.out hb)
  obtain ⟨Ao7_0, co7_0, ev_⟩ := Kd.S_slice ho0_
  subst ev_
  have HO7_0 := Aside0.mk (Kd.S_lower (Kd.S_mono (ok' := (fun k_ => w6_.heap.size ≤ k_ ∧ k_ < w7_.heap.size)) (Kd.S_bound ho0_) (fun k_ hk_ => ⟨hk_.2.1, hk_.2.2.1⟩)) HB.out.size)
  replace HB := Aside0.mk (below_then HB.out HB.out.size hb)
  clear hb ho0_
  go_wp2_with fail
  (with_reducible refine (laws_eqIntSS.calls k _ _ t4 _ _ t7 true _ (Kd.S_reads' HO4_0.out).2.2 (Kd.S_reads' HO4_0.out).2.1 (Kd.S_reads' HO7_0.out).2.2 (Kd.S_reads' HO7_0.out).2.1 A8.out).mono ?_)
  rintro e w8_ ⟨rfl, hb⟩
  replace hb := Drawn0.below hb
  have hs8 := Aside0.mk hb.size
  replace HO2_0 := Aside0.mk (Kd.S_below HO2_0.out hb)
  replace HO3_0 := Aside0.mk (Kd.S_below HO3_0.out hb)
  replace HO4_0 := Aside0.mk (Kd.S_below HO4_0.out hb)
  replace HO5_0 := Aside0.mk (Kd.S_below HO5_0.out hb)
  replace HO7_0 := Aside0.mk (Kd.S_below HO7_0.out hb)
  replace HB := Aside0.mk (below_then HB.out HB.out.size hb)
  clear hb 
  go_wp2_with fail
  (with_reducible refine (laws_markIntSS.calls k (fun k_ => w3_.heap.size ≤ k_ ∧ k_ < w4_.heap.size) (.slice Ao4_0 t4.length co4_0) t4 1 t9 t10 w _ HB.out HO4_0.out A9.out).mono ?_)
  rintro e w9_ ⟨rfl, ho0_, ho1_, hkp⟩
  have hs9 := Aside0.mk hkp.1
  replace HO2_0 := Aside0.mk (Kd.S_kept HO2_0.out hkp (fun k_ hk_ hs_ => by obtain ⟨hk1_, hk2_⟩ := hk_; obtain ⟨hs1_, hs2_⟩ := hs_; have := hs1.out; have := hs2.out; have := hs3.out; have := hs4.out; have := hs5.out; have := hs6.out; have := hs7.out; have := hs8.out; have := hs9.out; omega))
  replace HO3_0 := Aside0.mk (Kd.S_kept HO3_0.out hkp (fun k_ hk_ hs_ => by obtain ⟨hk1_, hk2_⟩ := hk_; obtain ⟨hs1_, hs2_⟩ := hs_; have := hs1.out; have := hs2.out; have := hs3.out; have := hs4.out; have := hs5.out; have := hs6.out; have := hs7.out; have := hs8.out; have := hs9.out; omega))
  replace HO5_0 := Aside0.mk (Kd.S_kept HO5_0.out hkp (fun k_ hk_ hs_ => by obtain ⟨hk1_, hk2_⟩ := hk_; obtain ⟨hs1_, hs2_⟩ := hs_; have := hs1.out; have := hs2.out; have := hs3.out; have := hs4.out; have := hs5.out; have := hs6.out; have := hs7.out; have := hs8.out; have := hs9.out; omega))
  replace HO7_0 := Aside0.mk (Kd.S_kept HO7_0.out hkp (fun k_ hk_ hs_ => by obtain ⟨hk1_, hk2_⟩ := hk_; obtain ⟨hs1_, hs2_⟩ := hs_; have := hs1.out; have := hs2.out; have := hs3.out; have := hs4.out; have := hs5.out; have := hs6.out; have := hs7.out; have := hs8.out; have := hs9.out; omega))
  replace HO4_0 := Aside0.mk ho0_
  have LQHO4_0 := Aside0.mk (Kd.S_reads' HO4_0.out).1.symm
  replace HB := Aside0.mk ho1_
  clear hkp ho0_ ho1_
  go_wp2_with fail
  (with_reducible refine (laws_eqIntSS.calls k _ _ t5 _ _ t3 true _ (Kd.S_reads' HO5_0.out).2.2 (Kd.S_reads' HO5_0.out).2.1 (Kd.S_reads' HO3_0.out).2.2 (Kd.S_reads' HO3_0.out).2.1 A10.out).mono ?_)
  rintro e w10_ ⟨rfl, hb⟩
  replace hb := Drawn0.below hb
  have hs10 := Aside0.mk hb.size
  replace HO2_0 := Aside0.mk (Kd.S_below HO2_0.out hb)
  replace HO3_0 := Aside0.mk (Kd.S_below HO3_0.out hb)
  replace HO4_0 := Aside0.mk (Kd.S_below HO4_0.out hb)
  replace HO5_0 := Aside0.mk (Kd.S_below HO5_0.out hb)
  replace HO7_0 := Aside0.mk (Kd.S_below HO7_0.out hb)
  replace HB := Aside0.mk (below_then HB.out HB.out.size hb)
  clear hb 
  go_wp2_with fail
  (with_reducible refine (laws_markIntSS.calls k (fun k_ => w4_.heap.size ≤ k_ ∧ k_ < w5_.heap.size) (.slice Ao5_0 t5.length co5_0) t5 1 t12 t13 w _ HB.out HO5_0.out A11.out).mono ?_)
  rintro e w11_ ⟨rfl, ho0_, ho1_, hkp⟩
  have hs11 := Aside0.mk hkp.1
  replace HO2_0 := Aside0.mk (Kd.S_kept HO2_0.out hkp (fun k_ hk_ hs_ => by obtain ⟨hk1_, hk2_⟩ := hk_; obtain ⟨hs1_, hs2_⟩ := hs_; have := hs1.out; have := hs2.out; have := hs3.out; have := hs4.out; have := hs5.out; have := hs6.out; have := hs7.out; have := hs8.out; have := hs9.out; have := hs10.out; have := hs11.out; omega))
  replace HO3_0 := Aside0.mk (Kd.S_kept HO3_0.out hkp (fun k_ hk_ hs_ => by obtain ⟨hk1_, hk2_⟩ := hk_; obtain ⟨hs1_, hs2_⟩ := hs_; have := hs1.out; have := hs2.out; have := hs3.out; have := hs4.out; have := hs5.out; have := hs6.out; have := hs7.out; have := hs8.out; have := hs9.out; have := hs10.out; have := hs11.out; omega))
  replace HO4_0 := Aside0.mk (Kd.S_kept HO4_0.out hkp (fun k_ hk_ hs_ => by obtain ⟨hk1_, hk2_⟩ := hk_; obtain ⟨hs1_, hs2_⟩ := hs_; have := hs1.out; have := hs2.out; have := hs3.out; have := hs4.out; have := hs5.out; have := hs6.out; have := hs7.out; have := hs8.out; have := hs9.out; have := hs10.out; have := hs11.out; omega))
  replace HO7_0 := Aside0.mk (Kd.S_kept HO7_0.out hkp (fun k_ hk_ hs_ => by obtain ⟨hk1_, hk2_⟩ := hk_; obtain ⟨hs1_, hs2_⟩ := hs_; have := hs1.out; have := hs2.out; have := hs3.out; have := hs4.out; have := hs5.out; have := hs6.out; have := hs7.out; have := hs8.out; have := hs9.out; have := hs10.out; have := hs11.out; omega))
  replace HO5_0 := Aside0.mk ho0_
  have LQHO5_0 := Aside0.mk (Kd.S_reads' HO5_0.out).1.symm
  replace HB := Aside0.mk ho1_
  clear hkp ho0_ ho1_
  go_wp2_with fail
  refine (calls_cast (by rw [LQHO5_0.out]) (laws_heldIntSS.calls k _ _ t13 1 t12 _ (Kd.S_reads' HO5_0.out).2.2 (by rw [LQHO5_0.out]; exact (Kd.S_reads' HO5_0.out).2.1) A12.out)).mono ?_
  rintro e w12_ ⟨rfl, hb⟩
  replace hb := Drawn0.below hb
  have hs12 := Aside0.mk hb.size
  replace HO2_0 := Aside0.mk (Kd.S_below HO2_0.out hb)
  replace HO3_0 := Aside0.mk (Kd.S_below HO3_0.out hb)
  replace HO4_0 := Aside0.mk (Kd.S_below HO4_0.out hb)
  replace HO5_0 := Aside0.mk (Kd.S_below HO5_0.out hb)
  replace HO7_0 := Aside0.mk (Kd.S_below HO7_0.out hb)
  replace HB := Aside0.mk (below_then HB.out HB.out.size hb)
  clear hb 
  go_wp2_with fail
  (with_reducible refine (laws_toIntSS.calls k _ _ l0 t15 _ (Kd.C_below HR0.out HB.out) HC0.out A13.out).mono ?_)
  rintro e w13_ ⟨v0_, rfl, ho0_, hb⟩
  have hs13 := Aside0.mk hb.size
  replace HO2_0 := Aside0.mk (Kd.S_below HO2_0.out hb)
  replace HO3_0 := Aside0.mk (Kd.S_below HO3_0.out hb)
  replace HO4_0 := Aside0.mk (Kd.S_below HO4_0.out hb)
  replace HO5_0 := Aside0.mk (Kd.S_below HO5_0.out hb)
  replace HO7_0 := Aside0.mk (Kd.S_below HO7_0.out hb)
  obtain ⟨Ao13_0, co13_0, ev_⟩ := Kd.S_slice ho0_
  subst ev_
  have HO13_0 := Aside0.mk (Kd.S_lower (Kd.S_mono (ok' := (fun k_ => w12_.heap.size ≤ k_ ∧ k_ < w13_.heap.size)) (Kd.S_bound ho0_) (fun k_ hk_ => ⟨hk_.2.1, hk_.2.2.1⟩)) HB.out.size)
  replace HB := Aside0.mk (below_then HB.out HB.out.size hb)
  clear hb ho0_
  go_wp2_with fail
  (with_reducible refine (impl_ReverseLanes.calls k _ _ t15 t16 _ (Kd.S_reads' HO13_0.out).2.2 (Kd.S_reads' HO13_0.out).2.1 A14.out).mono ?_)
  rintro e w14_ ⟨v0_, rfl, ho0_, hb⟩
  have hs14 := Aside0.mk hb.size
  replace HO2_0 := Aside0.mk (Kd.S_below HO2_0.out hb)
  replace HO3_0 := Aside0.mk (Kd.S_below HO3_0.out hb)
  replace HO4_0 := Aside0.mk (Kd.S_below HO4_0.out hb)
  replace HO5_0 := Aside0.mk (Kd.S_below HO5_0.out hb)
  replace HO7_0 := Aside0.mk (Kd.S_below HO7_0.out hb)
  replace HO13_0 := Aside0.mk (Kd.S_below HO13_0.out hb)
  obtain ⟨Ao14_0, co14_0, ev_⟩ := Kd.S_slice ho0_
  subst ev_
  have HO14_0 := Aside0.mk (Kd.S_lower (Kd.S_mono (ok' := (fun k_ => w13_.heap.size ≤ k_ ∧ k_ < w14_.heap.size)) (Kd.S_bound ho0_) (fun k_ hk_ => ⟨hk_.2.1, hk_.2.2.1⟩)) HB.out.size)
  replace HB := Aside0.mk (below_then HB.out HB.out.size hb)
  clear hb ho0_
  go_wp2_with fail
  (with_reducible refine (laws_eqIntSS.calls k _ _ t16 _ _ t3 true _ (Kd.S_reads' HO14_0.out).2.2 (Kd.S_reads' HO14_0.out).2.1 (Kd.S_reads' HO3_0.out).2.2 (Kd.S_reads' HO3_0.out).2.1 A15.out).mono ?_)
  rintro e w15_ ⟨rfl, hb⟩
  replace hb := Drawn0.below hb
  have hs15 := Aside0.mk hb.size
  replace HO2_0 := Aside0.mk (Kd.S_below HO2_0.out hb)
  replace HO3_0 := Aside0.mk (Kd.S_below HO3_0.out hb)
  replace HO4_0 := Aside0.mk (Kd.S_below HO4_0.out hb)
  replace HO5_0 := Aside0.mk (Kd.S_below HO5_0.out hb)
  replace HO7_0 := Aside0.mk (Kd.S_below HO7_0.out hb)
  replace HO13_0 := Aside0.mk (Kd.S_below HO13_0.out hb)
  replace HO14_0 := Aside0.mk (Kd.S_below HO14_0.out hb)
  replace HB := Aside0.mk (below_then HB.out HB.out.size hb)
  clear hb 
  go_wp2_with fail
  refine (calls_cast (by rw [LQHO5_0.out]) (laws_heldIntSS.calls k _ _ t13 1 t12 _ (Kd.S_reads' HO5_0.out).2.2 (by rw [LQHO5_0.out]; exact (Kd.S_reads' HO5_0.out).2.1) A16.out)).mono ?_
  rintro e w16_ ⟨rfl, hb⟩
  replace hb := Drawn0.below hb
  have hs16 := Aside0.mk hb.size
  replace HO2_0 := Aside0.mk (Kd.S_below HO2_0.out hb)
  replace HO3_0 := Aside0.mk (Kd.S_below HO3_0.out hb)
  replace HO4_0 := Aside0.mk (Kd.S_below HO4_0.out hb)
  replace HO5_0 := Aside0.mk (Kd.S_below HO5_0.out hb)
  replace HO7_0 := Aside0.mk (Kd.S_below HO7_0.out hb)
  replace HO13_0 := Aside0.mk (Kd.S_below HO13_0.out hb)
  replace HO14_0 := Aside0.mk (Kd.S_below HO14_0.out hb)
  replace HB := Aside0.mk (below_then HB.out HB.out.size hb)
  clear hb 
  go_wp2
  go_ret
  exact ⟨rfl, HB.out⟩


/-- THE ONE PURE STATEMENT of laws_FnExactReverseLanes. -/
def laws_FnExactReverseLanes.Pure : Prop := ∀ (l0 : List (List Int)), (l0.length ≤ 9223372036854775807 ∧ ∀ e154 ∈ l0, e154.length ≤ 9223372036854775807 ∧ ∀ e155 ∈ e154, (Lit.int .i64 e155).wf = true) → ∃ k, laws_FnExactReverseLanes.f k l0 = some true

end Go.Proofs.Ytoafbbopicbofaa.PFnExactReverseLanes
