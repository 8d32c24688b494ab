-- Written by a program of this session (wip/xp): not trusted, Lean checks it.
import Derived.Test.YtoafbbopicbofaaPFnExactAlignLanesx0
import Derived.Test.YtoafbbopicbofaaPFnExactAlignLanesx1
import Derived.Test.YtoafbbopicbofaaPFnExactAlignLanesx2
import Derived.Test.YtoafbbopicbofaaPFnExactAlignLanesx3
namespace Go.Proofs.Ytoafbbopicbofaa.PFnExactAlignLanes
open Go.RowKit Go.Proofs.YtoafbbopicbofaaW.PrintWords Go.Proofs.YtoafbbopicbofaaW.PrintLast Go.Proofs.YtoafbbopicbofaaW.PrintMore
attribute [local go_sem] max2_int min2_int max_two min_two max_three min_three max_four min_four   -- for this text's walks alone
set_option linter.unusedVariables false
set_option linter.unusedSimpArgs false

/-! ### impl_AlignLanes: function 24 -/
def impl_AlignLanes.l0 : Nat → List (List Int) → List (List Int) → Int → Int → Option ((List (List Int)) × Bool)
  | 0, _, _, _, _ => none
  | k + 1, x4, x13, x14, x15 => if x15 < x14 then (if 0 ≤ x15 then (if x15 < (x13.length : Int) then (if 0 ≤ (mn ((rd_L1 x13 x15).length : Int) 4) then (if (mn ((rd_L1 x13 x15).length : Int) 4) ≤ ((rd_L1 x13 x15).length : Int) then ((slices_Index_int_int.f k ((rd_L1 x13 x15).take ((mn ((rd_L1 x13 x15).length : Int) 4) : Int).toNat) 256).bind fun t181 => (if t181 < 0 then (some (([] : List (List Int)), false)) else (if 0 ≤ (wrap64 (t181 + 1)) then (if (wrap64 (t181 + 1)) ≤ ((rd_L1 x13 x15).length : Int) then ((slices_Clone_int_int.f ((rd_L1 x13 x15).drop ((wrap64 (t181 + 1)) : Int).toNat)).bind fun t183 => (if x4.length < 5864062014805 then (impl_AlignLanes.l0 k (x4 ++ [t183]) x13 x14 (wrap64 (x15 + 1))) else (none))) else (none)) else (none)))) else (none)) else (none)) else (none)) else (none)) else (some (x4, true))
def impl_AlignLanes.f (k : Nat) (l0 : List (List Int)) : Option ((List (List Int)) × Bool) := (impl_IsWidth.f (l0.length : Int)).bind fun t175 => (if t175 = true then (impl_AlignLanes.l0 k (([] : List (List Int))) l0 (l0.length : Int) 0) else (some (([] : List (List Int)), false)))
theorem impl_AlignLanes.mono_l : ∀ k, (∀ y0 y1 y2 y3, LeO (impl_AlignLanes.l0 k y0 y1 y2 y3) (impl_AlignLanes.l0 (k + 1) y0 y1 y2 y3))
  | 0 => fun _ _ _ _ r h => by simp [impl_AlignLanes.l0] at h
  | k + 1 => by
    have ih0 := impl_AlignLanes.mono_l k
    · intro y0 y1 y2 y3
      unfold impl_AlignLanes.l0
      repeat' first
      | (with_reducible exact ih0 _ _ _ _)
      | (with_reducible exact slices_Index_int_int.mono _ _ _)
      | (with_reducible exact LeO.refl _)
      | (with_reducible exact LeO.none _)
      | (with_reducible refine LeO.ite ?_ ?_)
      | (with_reducible refine LeO.bind ?_ (fun _ => ?_))
      | exact ih0 _ _ _ _
      | exact slices_Index_int_int.mono _ _ _
      | exact LeO.none _
      | refine LeO.ite ?_ ?_
      | refine LeO.bind ?_ (fun _ => ?_)
theorem impl_AlignLanes.mono : ∀ a0 k, LeO (impl_AlignLanes.f k a0) (impl_AlignLanes.f (k + 1) a0) := by
  intro a0 k
  have ih0 := impl_AlignLanes.mono_l k
  unfold impl_AlignLanes.f
  repeat' first
      | (with_reducible exact ih0 _ _ _ _)
      | (with_reducible exact slices_Index_int_int.mono _ _ _)
      | (with_reducible exact LeO.refl _)
      | (with_reducible exact LeO.none _)
      | (with_reducible refine LeO.ite ?_ ?_)
      | (with_reducible refine LeO.bind ?_ (fun _ => ?_))
      | exact ih0 _ _ _ _
      | exact slices_Index_int_int.mono _ _ _
      | exact LeO.none _
      | refine LeO.ite ?_ ?_
      | refine LeO.bind ?_ (fun _ => ?_)
set_option maxHeartbeats 8000000 in
set_option maxRecDepth 100000 in
theorem impl_AlignLanes.calls (k : Nat) (A0 : Option Addr) (c0 : Nat) (l0 : List (List Int)) (r1 : List (List Int)) (r2 : Bool) (w : World) (hr0 : Kd.C (Kd.slice 3 (Kd.int .i64)) w A0 l0.length l0) (hc0 : l0.length ≤ c0) (h : impl_AlignLanes.f k l0 = some (r1, r2)) :
    Calls Try.prog 24 #[.slice A0 l0.length c0] w fun e w' => ∃ v0_ : Value, e = .returned (.tuple #[v0_, .bool r2]) ∧ Kd.S (Kd.slice 3 (Kd.int .i64)) 22 w' w.heap.size (fun _ => True) v0_ r1 ∧ Below w.heap.size w w' := by
  have HR0 := Aside0.mk hr0
  have HC0 := Aside0.mk hc0
  clear hr0 hc0
  have HB := Aside0.mk (Below.refl w.heap.size w)
  have H : ((impl_IsWidth.f (l0.length : Int)).bind fun t175 => (if t175 = true then (impl_AlignLanes.l0 k (([] : List (List Int))) l0 (l0.length : Int) 0) else (some (([] : List (List Int)), false)))) = some (r1, r2) := h
  clear h
  replace H := Option.bind_eq_some_iff.mp H
  obtain ⟨t175, A20, H⟩ := H
  replace H : (if t175 = true then (impl_AlignLanes.l0 k (([] : List (List Int))) l0 (l0.length : Int) 0) else (some (([] : List (List Int)), false))) = some (r1, r2) := H
  have A2 := Aside0.mk A20
  clear A20
  by_cases c3 : t175 = true
  · subst c3
    have H1 : (impl_AlignLanes.l0 k (([] : List (List Int))) l0 (l0.length : Int) 0) = some (r1, r2) := by rw [if_pos rfl] at H; exact H
    clear H
    have H := H1
    clear H1
    obtain ⟨y176, hy176⟩ : ∃ y_ : List (List Int), y_ = (([] : List (List Int))) := ⟨_, rfl⟩
    replace H : (impl_AlignLanes.l0 k y176 l0 (l0.length : Int) 0) = some (r1, r2) := by first | (rw [hy176]; with_reducible exact H) | (have H2_ := (Option.bind_some _ _).symm.trans H; rw [hy176]; with_reducible exact H2_) | (have H2_ := (Option.bind_some _ _).symm.trans H; with_reducible exact H2_) | with_reducible exact H | (rw [hy176]; exact H) | exact H
    have Ny176 := Aside0.mk hy176
    clear hy176
    have H' := Aside0.mk H
    clear H
    go_enter Try.func24, Try.ntmps24
    go_wp2_with (first | ((with_reducible refine gate_callee (f := 32) rfl ?_); refine goesL_ (some 10) rfl rfl Try.func32 (by kernel_rfl) rfl #[.int .i64 (l0.length : Int)] rfl (by (try simp only [List.map_toArray, List.map_cons, List.map_nil]); first | done | rfl | (simp only [List.length_drop, List.length_take]; rfl)) ?_; (with_reducible refine (impl_IsWidth.calls (l0.length : Int) true _ A2.out).mono ?_); rintro e w' ⟨rfl, ⟨nd, rfl⟩⟩; refine ⟨_, rfl, ?_⟩) | ((with_reducible refine gate_dst (N := 12) rfl ?_); refine Kd.S_lit (Kd.slice 3 (Kd.int .i64)) _ 22 ?hg (N := 12) ?hd (xs := ([] : List (List Int))) (inner := []) (ok := fun _ => True) (okp := fun _ => True) ?hr ?hp (fun _ hk => hk) trivial (Below.refl _ _) (Nat.le_refl _) (by simp) ?_; (case hd => rfl); (case hg => rfl); (case hr => first | (go_simp; done) | (go_simp; rfl)); (case hp => exact (Reps.none _ _)); intro v177 w4 ho5 hb hg_ hnew_; clear hg_ hnew_; (first | rw [← Ny176.out] at ho5 | (simp only [Int.reduceToNat] at ho5; rw [← Ny176.out] at ho5)); have n0_ := Aside0.mk (Kd.S_lower ho5 (below_size (by repeat (first | (with_reducible first | exact HB.out | apply below_alloc | apply pw_below_drewN | apply below_drew1) | exact HB.out)))); have n1_ := Aside0.mk (below_step (by repeat (first | (with_reducible first | exact HB.out | apply below_alloc | apply pw_below_drewN | apply below_drew1) | exact HB.out)) hb); clear HB; have HO178 := n0_; have HB := n1_; clear n0_ n1_; clear hb ho5))
    go_loopg [4, 15] k (fun kq v4 v15 w' => ∃ (x4_1 : List (List Int)) (x15_1 : Int), v15 = .int .i64 x15_1 ∧ Aside0 (impl_AlignLanes.l0 kq x4_1 l0 (l0.length : Int) x15_1 = some (r1, r2)) ∧ Aside0 (kq ≤ k) ∧ Aside0 (Kd.S (Kd.slice 3 (Kd.int .i64)) 22 w' w.heap.size (fun _ => True) v4 x4_1) ∧ Aside0 (Below w.heap.size w w'))
    case atStart => exact ⟨(y176), (0), (by first | rfl | (simp; done) | (simp [*]; done)), H', ⟨Nat.le_refl _⟩, ⟨by (with_reducible repeat (first | apply Kd.S_alloc | apply Kd.S_drewN | apply Kd.S_drew)); exact HO178.out⟩, ⟨by repeat (first | (with_reducible first | exact HB.out | apply below_alloc | apply pw_below_drewN | apply below_drew1) | exact HB.out)⟩⟩
    case round =>
      clear H'
      try clear c2
      try clear p2
      try clear c3
      obtain ⟨x4_1, x15_1, rfl, HA, HK1, HO_4, HB⟩ := hrel
      cases gk with
      | zero => exact absurd HA.out (by simp [impl_AlignLanes.l0])
      | succ k1 =>
        have H := HA.out
        clear HA
        simp only [impl_AlignLanes.l0] at H
        by_cases c6 : x15_1 < (l0.length : Int)
        · rw [if_pos c6] at H
          have c6b0 : decide (x15_1 < (l0.length : Int)) = true := decide_eq_true c6
          clear c6
          by_cases c7 : 0 ≤ x15_1
          · rw [if_pos c7] at H
            have c7b0 : decide (0 ≤ x15_1) = true := decide_eq_true c7
            clear c7
            by_cases c8 : x15_1 < (l0.length : Int)
            · rw [if_pos c8] at H
              have c8b0 : decide (x15_1 < (l0.length : Int)) = true := decide_eq_true c8
              clear c8
              obtain ⟨ji9, hji9⟩ : ∃ j_ : Int, (mn ((rd_L1 l0 x15_1).length : Int) 4) = j_ := ⟨_, rfl⟩
              replace H : (if 0 ≤ (ji9) then (if (ji9) ≤ ((rd_L1 l0 x15_1).length : Int) then ((slices_Index_int_int.f k1 ((rd_L1 l0 x15_1).take ((ji9) : Int).toNat) 256).bind fun t181 => (if t181 < 0 then (some (([] : List (List Int)), false)) else (if 0 ≤ (wrap64 (t181 + 1)) then (if (wrap64 (t181 + 1)) ≤ ((rd_L1 l0 x15_1).length : Int) then ((slices_Clone_int_int.f ((rd_L1 l0 x15_1).drop ((wrap64 (t181 + 1)) : Int).toNat)).bind fun t183 => (if x4_1.length < 5864062014805 then (impl_AlignLanes.l0 k1 (x4_1 ++ [t183]) l0 (l0.length : Int) (wrap64 (x15_1 + 1))) else (none))) else (none)) else (none)))) else (none)) else (none)) = some (r1, r2) := by first | (rw [hji9] at H; exact H) | (simp only [hji9] at H ⊢; exact H)
              have hji9_ : (if 4 < ((rd_L1 l0 x15_1).length : Int) then 4 else ((rd_L1 l0 x15_1).length : Int)) = ji9 := hji9
              by_cases c10 : 0 ≤ (ji9)
              · rw [if_pos c10] at H
                have c10b0 := eq_true c10
                have c10b1 : decide (0 ≤ (ji9)) = true := decide_eq_true c10
                clear c10
                by_cases c11 : (ji9) ≤ ((rd_L1 l0 x15_1).length : Int)
                · rw [if_pos c11] at H
                  have c11b0 := eq_true c11
                  have c11b1 : decide ((ji9) ≤ ((rd_L1 l0 x15_1).length : Int)) = true := decide_eq_true c11
                  clear c11
                  replace H := Option.bind_eq_some_iff.mp H
                  obtain ⟨t181, A120, H⟩ := H
                  replace H : (if t181 < 0 then (some (([] : List (List Int)), false)) else (if 0 ≤ (wrap64 (t181 + 1)) then (if (wrap64 (t181 + 1)) ≤ ((rd_L1 l0 x15_1).length : Int) then ((slices_Clone_int_int.f ((rd_L1 l0 x15_1).drop ((wrap64 (t181 + 1)) : Int).toNat)).bind fun t183 => (if x4_1.length < 5864062014805 then (impl_AlignLanes.l0 k1 (x4_1 ++ [t183]) l0 (l0.length : Int) (wrap64 (x15_1 + 1))) else (none))) else (none)) else (none))) = some (r1, r2) := H
                  have A12 := Aside0.mk A120
                  clear A120
                  by_cases c13 : t181 < 0
                  · rw [if_pos c13] at H
                    have c13b0 : decide (t181 < 0) = true := decide_eq_true c13
                    clear c13
                    simp only [Option.some.injEq, Prod.mk.injEq] at H
                    obtain ⟨rfl, rfl⟩ := H
                    have p179 : 0 ≤ (x15_1 : Int) := of_decide_eq_true (by first | (with_reducible assumption) | assumption)
                    have q179 : x15_1 < (l0.length : Int) := of_decide_eq_true (by first | (with_reducible assumption) | assumption)
                    obtain ⟨ad179, A179_0, c179_0, e179, hx179_0, hl179_0, hi179_0⟩ := at_L1 HR0.out x15_1 p179 q179
                    cases e179
                    replace hx179_0 := (HB.out.cell (World.block_lt_of_cell? w _ hx179_0)).trans hx179_0
                    have HR179_0 := Aside0.mk hi179_0
                    have HC179_0 := Aside0.mk hl179_0
                    clear hi179_0 hl179_0
                    replace p179 := eq_true p179
                    replace q179 := eq_true q179
                    obtain ⟨i014, hi014, _, hsz14, _⟩ := info_parts info3
                    obtain ⟨hcut14, hA14, hC14⟩ := print_take_of (P := Try.prog) (Value.int .i64) 0 22 3 .i64 Try.underlying22 hi014 hsz14 A179_0 c179_0 (rd_L1 l0 x15_1) (ji9) (of_decide_eq_true (by first | (with_reducible assumption) | assumption)) (of_decide_eq_true (by first | (with_reducible assumption) | assumption)) HC179_0.out
                    have HR180 := Aside0.mk (Kd.C_of_reads (h1 := fun _ => rfl) (hA14 _ (Kd.reads_of_C HR179_0.out)))
                    have HC180 := Aside0.mk hC14
                    clear hA14 hC14 hi014 hsz14
                    go_wp2_with (first | ((with_reducible refine gate_callee (f := 44) rfl ?_); refine goesL_ (some 24) rfl rfl Try.func44 (by kernel_rfl) rfl #[.slice A179_0 ((rd_L1 l0 x15_1).take ((ji9) : Int).toNat).length c179_0, .int .i64 256] rfl (by (try simp only [List.map_toArray, List.map_cons, List.map_nil]); first | done | (rw [show ((rd_L1 l0 x15_1).take ((ji9) : Int).toNat).length = (ji9).toNat from (by rw [List.length_take]; have h_ : ((ji9) : Int) ≤ ((rd_L1 l0 x15_1).length : Int) := of_decide_eq_true (by first | (with_reducible assumption) | assumption); omega)] <;> rfl) | (simp only [hji9]; rfl) | rfl | (simp only [List.length_drop, List.length_take]; rfl)) ?_; (with_reducible refine (slices_Index_int_int.calls k1 _ _ ((rd_L1 l0 x15_1).take ((ji9) : Int).toNat) 256 t181 _ ?side1 ?side2 A12.out).mono ?_); (case side1 => repeat (first | exact (Kd.C_below HR180.out HB.out) | (with_reducible refine Kd.C_alloc ?_ _) | (with_reducible refine Kd.C_drewN ?_ _) | (with_reducible refine Kd.C_drew ?_))); (case side2 => exact HC180.out); rintro e w' ⟨rfl, ⟨nd, rfl⟩⟩; refine ⟨_, rfl, ?_⟩))
                    go_ret2
                    exact ⟨_, by first | rfl | (simp [errW_none, errW_some] <;> rfl) | (simp only [← hji9]; first | rfl | (simp [errW_none, errW_some] <;> rfl)) | (simp [*, errW_none, errW_some] <;> rfl), by first | exact Kd.S_nil _ _ _ _ _ | exact Kd.N_nil _ _ _ _ _ | exact Kd.V_nil _ _ _ _ _ | exact Kd.Q_nil _ _ _ _ _ | exact Kd.R_nil _ _ _ _ _, by repeat (first | (with_reducible first | exact HB.out | apply below_alloc | apply pw_below_drewN | apply below_drew1) | exact HB.out)⟩
                  · rw [if_neg c13] at H
                    have c13b0 : decide (t181 < 0) = false := decide_eq_false c13
                    clear c13
                    obtain ⟨ji15, hji15⟩ : ∃ j_ : Int, (wrap64 (t181 + 1)) = j_ := ⟨_, rfl⟩
                    replace H : (if 0 ≤ (ji15) then (if (ji15) ≤ ((rd_L1 l0 x15_1).length : Int) then ((slices_Clone_int_int.f ((rd_L1 l0 x15_1).drop ((ji15) : Int).toNat)).bind fun t183 => (if x4_1.length < 5864062014805 then (impl_AlignLanes.l0 k1 (x4_1 ++ [t183]) l0 (l0.length : Int) (wrap64 (x15_1 + 1))) else (none))) else (none)) else (none)) = some (r1, r2) := by first | (rw [hji15] at H; exact H) | (simp only [hji15] at H ⊢; exact H)
                    (try rw [hji15] at A12)
                    have hji15w : (IntKind.i64.wrap (t181 + 1)) = ji15 := (i64_w _).trans hji15
                    by_cases c16 : 0 ≤ (ji15)
                    · rw [if_pos c16] at H
                      have c16b0 := eq_true c16
                      have c16b1 : decide (0 ≤ (ji15)) = true := decide_eq_true c16
                      clear c16
                      by_cases c17 : (ji15) ≤ ((rd_L1 l0 x15_1).length : Int)
                      · rw [if_pos c17] at H
                        have c17b0 := eq_true c17
                        have c17b1 : decide ((ji15) ≤ ((rd_L1 l0 x15_1).length : Int)) = true := decide_eq_true c17
                        clear c17
                        replace H := Option.bind_eq_some_iff.mp H
                        obtain ⟨t183, A180, H⟩ := H
                        replace H : (if x4_1.length < 5864062014805 then (impl_AlignLanes.l0 k1 (x4_1 ++ [t183]) l0 (l0.length : Int) (wrap64 (x15_1 + 1))) else (none)) = some (r1, r2) := H
                        have A18 := Aside0.mk A180
                        clear A180
                        by_cases c19 : x4_1.length < 5864062014805
                        · rw [if_pos c19] at H
                          have LMc19 := Aside0.mk c19
                          clear c19
                          obtain ⟨y186, hy186⟩ : ∃ y_ : List (List Int), y_ = (x4_1 ++ [t183]) := ⟨_, rfl⟩
                          replace H : (impl_AlignLanes.l0 k1 y186 l0 (l0.length : Int) (wrap64 (x15_1 + 1))) = some (r1, r2) := by first | (rw [hy186]; with_reducible exact H) | (have H2_ := (Option.bind_some _ _).symm.trans H; rw [hy186]; with_reducible exact H2_) | (have H2_ := (Option.bind_some _ _).symm.trans H; with_reducible exact H2_) | with_reducible exact H | (rw [hy186]; exact H) | exact H
                          have Ny186 := Aside0.mk hy186
                          clear hy186
                          have H' := Aside0.mk H
                          clear H
                          have p179 : 0 ≤ (x15_1 : Int) := of_decide_eq_true (by first | (with_reducible assumption) | assumption)
                          have q179 : x15_1 < (l0.length : Int) := of_decide_eq_true (by first | (with_reducible assumption) | assumption)
                          obtain ⟨ad179, A179_0, c179_0, e179, hx179_0, hl179_0, hi179_0⟩ := at_L1 HR0.out x15_1 p179 q179
                          cases e179
                          replace hx179_0 := (HB.out.cell (World.block_lt_of_cell? w _ hx179_0)).trans hx179_0
                          have HR179_0 := Aside0.mk hi179_0
                          have HC179_0 := Aside0.mk hl179_0
                          clear hi179_0 hl179_0
                          replace p179 := eq_true p179
                          replace q179 := eq_true q179
                          obtain ⟨i020, hi020, _, hsz20, _⟩ := info_parts info3
                          obtain ⟨hcut20, hA20, hC20⟩ := print_take_of (P := Try.prog) (Value.int .i64) 0 22 3 .i64 Try.underlying22 hi020 hsz20 A179_0 c179_0 (rd_L1 l0 x15_1) (ji9) (of_decide_eq_true (by first | (with_reducible assumption) | assumption)) (of_decide_eq_true (by first | (with_reducible assumption) | assumption)) HC179_0.out
                          have HR180 := Aside0.mk (Kd.C_of_reads (h1 := fun _ => rfl) (hA20 _ (Kd.reads_of_C HR179_0.out)))
                          have HC180 := Aside0.mk hC20
                          clear hA20 hC20 hi020 hsz20
                          go_wp2_with (first | ((with_reducible refine gate_callee (f := 44) rfl ?_); refine goesL_ (some 24) rfl rfl Try.func44 (by kernel_rfl) rfl #[.slice A179_0 ((rd_L1 l0 x15_1).take ((ji9) : Int).toNat).length c179_0, .int .i64 256] rfl (by (try simp only [List.map_toArray, List.map_cons, List.map_nil]); first | done | (rw [show ((rd_L1 l0 x15_1).take ((ji9) : Int).toNat).length = (ji9).toNat from (by rw [List.length_take]; have h_ : ((ji9) : Int) ≤ ((rd_L1 l0 x15_1).length : Int) := of_decide_eq_true (by first | (with_reducible assumption) | assumption); omega)] <;> rfl) | (simp only [hji9]; rfl) | rfl | (simp only [List.length_drop, List.length_take]; rfl)) ?_; (with_reducible refine (slices_Index_int_int.calls k1 _ _ ((rd_L1 l0 x15_1).take ((ji9) : Int).toNat) 256 t181 _ ?side1 ?side2 A12.out).mono ?_); (case side1 => repeat (first | exact (Kd.C_below HR180.out HB.out) | (with_reducible refine Kd.C_alloc ?_ _) | (with_reducible refine Kd.C_drewN ?_ _) | (with_reducible refine Kd.C_drew ?_))); (case side2 => exact HC180.out); rintro e w' ⟨rfl, ⟨nd, rfl⟩⟩; refine ⟨_, rfl, ?_⟩; obtain ⟨i021, hi021, _, hsz21, _⟩ := info_parts info3; obtain ⟨A21, hcut21, hA21, hC21⟩ := print_drop_of (P := Try.prog) (Value.int .i64) 0 22 3 .i64 Try.underlying22 hi021 hsz21 A179_0 c179_0 (rd_L1 l0 x15_1) (ji15) (of_decide_eq_true (by first | (with_reducible assumption) | assumption)) (of_decide_eq_true (by first | (with_reducible assumption) | assumption)) HC179_0.out; have HR182 := Aside0.mk (Kd.C_of_reads (h1 := fun _ => rfl) (hA21 _ (Kd.reads_of_C HR179_0.out))); have HC182 := Aside0.mk hC21; clear hA21 hC21 hi021 hsz21) | ((with_reducible refine gate_callee (f := 45) rfl ?_); refine goesL_ (some 32) rfl rfl Try.func45 (by kernel_rfl) rfl #[.slice A21 ((rd_L1 l0 x15_1).drop ((ji15) : Int).toNat).length (c179_0 - (ji15).toNat)] rfl (by (try simp only [List.map_toArray, List.map_cons, List.map_nil]); first | done | (rw [show ((rd_L1 l0 x15_1).drop ((ji15) : Int).toNat).length = ((rd_L1 l0 x15_1).length - (ji15).toNat) from List.length_drop] <;> rfl) | (simp only [hji15]; rfl) | rfl | (simp only [List.length_drop, List.length_take]; rfl)) ?_; (with_reducible refine (slices_Clone_int_int.calls _ _ ((rd_L1 l0 x15_1).drop ((ji15) : Int).toNat) t183 _ ?side1 ?side2 A18.out).mono ?_); (case side1 => repeat (first | exact (Kd.C_below HR182.out (by repeat (first | (with_reducible first | exact HB.out | apply below_alloc | apply pw_below_drewN | apply below_drew1) | exact HB.out))) | (with_reducible refine Kd.C_alloc ?_ _) | (with_reducible refine Kd.C_drewN ?_ _) | (with_reducible refine Kd.C_drew ?_))); (case side2 => exact HC182.out); rintro e w22 ⟨v184, rfl, ho0, hb⟩; refine ⟨_, rfl, ?_⟩; have n0_ := Aside0.mk (Kd.S_elder' (by (with_reducible repeat (first | apply Kd.S_alloc | apply Kd.S_drewN | apply Kd.S_drew)); exact HO_4.out) (Kd.R_base ho0) hb); have n1_ := Aside0.mk (Kd.R_lower ho0 (below_size (by repeat (first | (with_reducible first | exact HB.out | apply below_alloc | apply pw_below_drewN | apply below_drew1) | exact HB.out)))); have n2_ := Aside0.mk (below_step (by repeat (first | (with_reducible first | exact HB.out | apply below_alloc | apply pw_below_drewN | apply below_drew1) | exact HB.out)) hb); clear HO_4; clear HB; have HO_4 := n0_; have HO185 := n1_; have HB := n2_; clear n0_ n1_ n2_; (try clear hb); (try clear hb2); (try clear hk); (try clear hi); (try clear ho0); obtain ⟨Ao24, co24, eo24⟩ := Kd.R_slice HO185.out; subst eo24) | ((with_reducible refine gate_builtin (b := .append) (xs := #[.tmp 27, .tmp 33]) rfl ?_); at_builtin; refine Kd.S_append (Kd.slice 3 (Kd.int .i64)) (w0 := w) w.heap.size rfl (.tmp 27) (.tmp 33) 23 22 (.slice none 0 0) 24 rfl Try.underlying23 info22 rfl (by decide) (by omega) u4 x4_1 t183 [.slice Ao24 t183.length co24] (fun _ => True) (fun k_ => some k_ = (.slice Ao24 t183.length co24 : Value).ownBlock) rfl rfl ?aP (fun k_ hk_ => ((Kd.R_mono (ok' := fun k_ => ((fun _ => True)) k_ ∧ some k_ ≠ (u4 : Value).ownBlock) (Kd.R_apart' (HO185.out) (Kd.S_typed HO_4.out) (by decide)) (fun k_ hk => ⟨trivial, hk.2⟩))).1 k_ hk_.symm) ?aF ?aO ?aB ?aS ?aL ?_; (case aP => exact Kd.M_row (Kd.R_mono (Kd.R_tight rfl (Kd.R_mono (ok' := fun k_ => ((fun _ => True)) k_ ∧ some k_ ≠ (u4 : Value).ownBlock) (Kd.R_apart' (HO185.out) (Kd.S_typed HO_4.out) (by decide)) (fun k_ hk => ⟨trivial, hk.2⟩))) (fun _ h_ => h_))); (case aB => exact (by repeat (first | (with_reducible first | exact HB.out | apply below_alloc | apply pw_below_drewN | apply below_drew1) | exact HB.out))); (case aF => exact (fun _ _ => trivial)); (case aO => exact (by (with_reducible repeat (first | apply Kd.S_alloc | apply Kd.S_drewN | apply Kd.S_drew)); exact Kd.S_mono HO_4.out (fun k_ hk => ⟨trivial, fun e_ => hk.2 e_⟩))); (case aS => exact (below_size (by repeat (first | (with_reducible first | exact HB.out | apply below_alloc | apply pw_below_drewN | apply below_drew1) | exact HB.out)))); (case aL => have := LMc19.out; omega); intro v187 w23 ho hb hg hat; rw [← Ny186.out] at ho; have n0_ := Aside0.mk (hb); have n1_ := Aside0.mk (ho); clear HB; clear HO_4; clear HO185; have HB := n0_; have HO188 := n1_; clear n0_ n1_; clear ho hb hg hat))
                          go_roundg k1
                          case measure => have := HK1.out; omega
                          case rel => exact ⟨(y186), (wrap64 (x15_1 + 1)), (by first | rfl | (simp; done) | (simp [*]; done)), H', ⟨by have := HK1.out; omega⟩, ⟨by (with_reducible repeat (first | apply Kd.S_alloc | apply Kd.S_drewN | apply Kd.S_drew)); exact HO188.out⟩, ⟨by repeat (first | (with_reducible first | exact HB.out | apply below_alloc | apply pw_below_drewN | apply below_drew1) | exact HB.out)⟩⟩
                        · rw [if_neg c19] at H
                          exact absurd H (by simp)
                      · rw [if_neg c17] at H
                        exact absurd H (by simp)
                    · rw [if_neg c16] at H
                      exact absurd H (by simp)
                · rw [if_neg c11] at H
                  exact absurd H (by simp)
              · rw [if_neg c10] at H
                exact absurd H (by simp)
            · rw [if_neg c8] at H
              exact absurd H (by simp)
          · rw [if_neg c7] at H
            exact absurd H (by simp)
        · rw [if_neg c6] at H
          have c6b0 : decide (x15_1 < (l0.length : Int)) = false := decide_eq_false c6
          clear c6
          simp only [Option.some.injEq, Prod.mk.injEq] at H
          obtain ⟨rfl, rfl⟩ := H
          go_wp2
          go_ret2
          exact ⟨_, by first | rfl | (simp [errW_none, errW_some] <;> rfl) | (simp [*, errW_none, errW_some] <;> rfl), by (with_reducible repeat (first | apply Kd.S_alloc | apply Kd.S_drewN | apply Kd.S_drew)); exact HO_4.out, by repeat (first | (with_reducible first | exact HB.out | apply below_alloc | apply pw_below_drewN | apply below_drew1) | exact HB.out)⟩
  · replace c3 := Bool.eq_false_iff.mpr c3
    subst c3
    have H1 : (some (([] : List (List Int)), false)) = some (r1, r2) := by rw [if_neg (show ¬ (false = true) by decide)] at H; exact H
    clear H
    have H := H1
    clear H1
    simp only [Option.some.injEq, Prod.mk.injEq] at H
    obtain ⟨rfl, rfl⟩ := H
    go_enter Try.func24, Try.ntmps24
    go_wp2_with (first | ((with_reducible refine gate_callee (f := 32) rfl ?_); refine goesL_ (some 10) rfl rfl Try.func32 (by kernel_rfl) rfl #[.int .i64 (l0.length : Int)] rfl (by (try simp only [List.map_toArray, List.map_cons, List.map_nil]); first | done | rfl | (simp only [List.length_drop, List.length_take]; rfl)) ?_; (with_reducible refine (impl_IsWidth.calls (l0.length : Int) false _ A2.out).mono ?_); rintro e w' ⟨rfl, ⟨nd, rfl⟩⟩; refine ⟨_, rfl, ?_⟩))
    go_ret2
    exact ⟨_, by first | rfl | (simp [errW_none, errW_some] <;> rfl) | (simp [*, errW_none, errW_some] <;> rfl), by first | exact Kd.S_nil _ _ _ _ _ | exact Kd.N_nil _ _ _ _ _ | exact Kd.V_nil _ _ _ _ _ | exact Kd.Q_nil _ _ _ _ _ | exact Kd.R_nil _ _ _ _ _, by repeat (first | (with_reducible first | exact HB.out | apply below_alloc | apply pw_below_drewN | apply below_drew1) | exact HB.out)⟩

theorem if_true_ {c : Prop} [Decidable c] {a : Option Bool} (h : (if c then a else (some false)) = some true) : c ∧ a = some true := by
  by_cases hc : c
  · rw [if_pos hc] at h; exact ⟨hc, h⟩
  · rw [if_neg hc] at h; simp at h
theorem calls_cast {P : Program} {n : Nat} {a b : Array Value} {w : World} {Q : Ending → World → Prop} (h : a = b) (hc : Calls P n a w Q) : Calls P n b w Q := h ▸ hc

/-! ### laws_FnExactAlignLanes: function 6, all its calls in a row -/
def laws_FnExactAlignLanes.f (k : Nat) (l0 : List (List Int)) : Option (Bool) := ((laws_szIntSS.f k l0 1048576).bind fun t1 => (if t1 < 0 then (some true) else ((laws_toIntSS.f k l0).bind fun t2 => ((spec_AlignLanes.f k t2).bind fun ⟨t3, t4⟩ => ((laws_toIntSS.f k l0).bind fun t5 => ((impl_AlignLanes.f k t5).bind fun ⟨t6, t7⟩ => ((laws_eqIntSS.f k t6 t3).bind fun t8 => (if t8 = true then (if t4 = t7 then ((laws_toIntSS.f k l0).bind fun t9 => ((laws_eqIntSS.f k t5 t9).bind fun t10 => (if t10 = true then ((laws_markIntSS.f k t5 1).bind fun ⟨t11, t12⟩ => (if ¬ (t11 < 0) then ((laws_eqIntSS.f k t6 t3).bind fun t13 => (if t13 = true then ((laws_markIntSS.f k t6 1).bind fun ⟨t14, t15⟩ => ((laws_heldIntSS.f k t15 1).bind fun t16 => (if ¬ (t16 < 0) then (if t14 = t16 then ((laws_toIntSS.f k l0).bind fun t17 => ((impl_AlignLanes.f k t17).bind fun ⟨t18, t19⟩ => ((laws_eqIntSS.f k t18 t3).bind fun t20 => (if t20 = true then (if t4 = t19 then ((laws_heldIntSS.f k t15 1).bind fun t21 => (if ¬ (t21 < 0) then (if t14 = t21 then (some true) else (some false)) else (some false))) else (some false)) else (some false))))) else (some false)) else (some false)))) else (some false))) else (some false))) else (some false)))) else (some false)) else (some false)))))))))
set_option maxHeartbeats 8000000 in
set_option maxRecDepth 100000 in
theorem laws_FnExactAlignLanes.calls (k : Nat) (A0 : Option Addr) (c0 : Nat) (l0 : List (List Int)) (r : Bool) (w : World) (hr0 : Kd.C (Kd.slice 3 (Kd.int .i64)) w A0 l0.length l0) (hc0 : l0.length ≤ c0) (hrt : Aside0 (r = true)) (h : laws_FnExactAlignLanes.f k l0 = some r) :
    Calls Try.prog 6 #[.slice A0 l0.length c0] w fun e w' => e = .returned (.bool r) ∧ Below w.heap.size w w' := by
  have HR0 := Aside0.mk hr0
  have HC0 := Aside0.mk hc0
  clear hr0 hc0
  obtain rfl := hrt.out
  clear hrt
  have HB := Aside0.mk (Below.refl w.heap.size w)
  unfold laws_FnExactAlignLanes.f at h
  have H := h
  clear h
  replace H := Option.bind_eq_some_iff.mp H
  obtain ⟨t1, A1_0, H⟩ := H
  have A1 := Aside0.mk A1_0
  clear A1_0
  by_cases hc4_ : t1 < 0
  case pos =>
    clear H
    have hc4_b0 : decide (t1 < 0) = true := decide_eq_true hc4_
    clear hc4_
    go_enter Try.func6, Try.ntmps6
    go_wp2_with fail
    (with_reducible refine (laws_szIntSS.calls k _ _ l0 1048576 t1 _ (Kd.C_below HR0.out HB.out) HC0.out A1.out).mono ?_)
    rintro e w1_ ⟨rfl, hb⟩
    replace hb := Drawn0.below hb
    have hs1 := Aside0.mk hb.size
    replace HB := Aside0.mk (below_then HB.out HB.out.size hb)
    clear hb 
    go_wp2
    go_ret
    exact ⟨rfl, HB.out⟩
  rw [if_neg hc4_] at H
  have hc4_b0 : decide (t1 < 0) = false := decide_eq_false hc4_
  clear hc4_
  replace H := Option.bind_eq_some_iff.mp H
  obtain ⟨t2, A2_0, H⟩ := H
  have A2 := Aside0.mk A2_0
  clear A2_0
  replace H := Option.bind_eq_some_iff.mp H
  obtain ⟨⟨t3, t4⟩, A3_0, H⟩ := H
  have A3 := Aside0.mk A3_0
  clear A3_0
  replace H := Option.bind_eq_some_iff.mp H
  obtain ⟨t5, A4_0, H⟩ := H
  have A4 := Aside0.mk A4_0
  clear A4_0
  replace H := Option.bind_eq_some_iff.mp H
  obtain ⟨⟨t6, t7⟩, A5_0, H⟩ := H
  have A5 := Aside0.mk A5_0
  clear A5_0
  replace H := Option.bind_eq_some_iff.mp H
  obtain ⟨t8, A6_0, H⟩ := H
  have A6 := Aside0.mk A6_0
  clear A6_0
  replace H := if_true_ H
  obtain ⟨hc43_, H⟩ := H
  subst hc43_
  replace H := if_true_ H
  obtain ⟨hc46_, H⟩ := H
  subst hc46_
  replace H := Option.bind_eq_some_iff.mp H
  obtain ⟨t9, A7_0, H⟩ := H
  have A7 := Aside0.mk A7_0
  clear A7_0
  replace H := Option.bind_eq_some_iff.mp H
  obtain ⟨t10, A8_0, H⟩ := H
  have A8 := Aside0.mk A8_0
  clear A8_0
  replace H := if_true_ H
  obtain ⟨hc57_, H⟩ := H
  subst hc57_
  replace H := Option.bind_eq_some_iff.mp H
  obtain ⟨⟨t11, t12⟩, A9_0, H⟩ := H
  have A9 := Aside0.mk A9_0
  clear A9_0
  replace H := if_true_ H
  obtain ⟨hc64_, H⟩ := H
  have hc64_b0 : decide (t11 < 0) = false := decide_eq_false hc64_
  clear hc64_
  replace H := Option.bind_eq_some_iff.mp H
  obtain ⟨t13, A10_0, H⟩ := H
  have A10 := Aside0.mk A10_0
  clear A10_0
  replace H := if_true_ H
  obtain ⟨hc72_, H⟩ := H
  subst hc72_
  replace H := Option.bind_eq_some_iff.mp H
  obtain ⟨⟨t14, t15⟩, A11_0, H⟩ := H
  have A11 := Aside0.mk A11_0
  clear A11_0
  replace H := Option.bind_eq_some_iff.mp H
  obtain ⟨t16, A12_0, H⟩ := H
  have A12 := Aside0.mk A12_0
  clear A12_0
  replace H := if_true_ H
  obtain ⟨hc83_, H⟩ := H
  have hc83_b0 : decide (t16 < 0) = false := decide_eq_false hc83_
  clear hc83_
  replace H := if_true_ H
  obtain ⟨hc87_, H⟩ := H
  subst hc87_
  replace H := Option.bind_eq_some_iff.mp H
  obtain ⟨t17, A13_0, H⟩ := H
  have A13 := Aside0.mk A13_0
  clear A13_0
  replace H := Option.bind_eq_some_iff.mp H
  obtain ⟨⟨t18, t19⟩, A14_0, H⟩ := H
  have A14 := Aside0.mk A14_0
  clear A14_0
  replace H := Option.bind_eq_some_iff.mp H
  obtain ⟨t20, A15_0, H⟩ := H
  have A15 := Aside0.mk A15_0
  clear A15_0
  replace H := if_true_ H
  obtain ⟨hc102_, H⟩ := H
  subst hc102_
  replace H := if_true_ H
  obtain ⟨hc105_, H⟩ := H
  subst hc105_
  replace H := Option.bind_eq_some_iff.mp H
  obtain ⟨t21, A16_0, H⟩ := H
  have A16 := Aside0.mk A16_0
  clear A16_0
  replace H := if_true_ H
  obtain ⟨hc112_, H⟩ := H
  have hc112_b0 : decide (t21 < 0) = false := decide_eq_false hc112_
  clear hc112_
  replace H := if_true_ H
  obtain ⟨hc116_, H⟩ := H
  subst hc116_
  clear H
  go_enter Try.func6, Try.ntmps6
  go_wp2_with fail
  (with_reducible refine (laws_szIntSS.calls k _ _ l0 1048576 t1 _ (Kd.C_below HR0.out HB.out) HC0.out A1.out).mono ?_)
  rintro e w1_ ⟨rfl, hb⟩
  replace hb := Drawn0.below hb
  have hs1 := Aside0.mk hb.size
  replace HB := Aside0.mk (below_then HB.out HB.out.size hb)
  clear hb 
  go_wp2_with fail
  (with_reducible refine (laws_toIntSS.calls k _ _ l0 t2 _ (Kd.C_below HR0.out HB.out) HC0.out A2.out).mono ?_)
  rintro e w2_ ⟨v0_, rfl, ho0_, hb⟩
  have hs2 := Aside0.mk hb.size
  obtain ⟨Ao2_0, co2_0, ev_⟩ := Kd.S_slice ho0_
  subst ev_
  have HO2_0 := Aside0.mk (Kd.S_lower (Kd.S_mono (ok' := (fun k_ => w1_.heap.size ≤ k_ ∧ k_ < w2_.heap.size)) (Kd.S_bound ho0_) (fun k_ hk_ => ⟨hk_.2.1, hk_.2.2.1⟩)) HB.out.size)
  replace HB := Aside0.mk (below_then HB.out HB.out.size hb)
  clear hb ho0_
  go_wp2_with fail
  (with_reducible refine (spec_AlignLanes.calls k _ _ t2 t3 t4 _ (Kd.S_reads' HO2_0.out).2.2 (Kd.S_reads' HO2_0.out).2.1 A3.out).mono ?_)
  rintro e w3_ ⟨v0_, rfl, ho0_, hb⟩
  have hs3 := Aside0.mk hb.size
  replace HO2_0 := Aside0.mk (Kd.S_below HO2_0.out hb)
  obtain ⟨Ao3_0, co3_0, ev_⟩ := Kd.S_slice ho0_
  subst ev_
  have HO3_0 := Aside0.mk (Kd.S_lower (Kd.S_mono (ok' := (fun k_ => w2_.heap.size ≤ k_ ∧ k_ < w3_.heap.size)) (Kd.S_bound ho0_) (fun k_ hk_ => ⟨hk_.2.1, hk_.2.2.1⟩)) HB.out.size)
  replace HB := Aside0.mk (below_then HB.out HB.out.size hb)
  clear hb ho0_
  go_wp2_with fail
  (with_reducible refine (laws_toIntSS.calls k _ _ l0 t5 _ (Kd.C_below HR0.out HB.out) HC0.out A4.out).mono ?_)
  rintro e w4_ ⟨v0_, rfl, ho0_, hb⟩
  have hs4 := Aside0.mk hb.size
  replace HO2_0 := Aside0.mk (Kd.S_below HO2_0.out hb)
  replace HO3_0 := Aside0.mk (Kd.S_below HO3_0.out hb)
  obtain ⟨Ao4_0, co4_0, ev_⟩ := Kd.S_slice ho0_
  subst ev_
  have HO4_0 := Aside0.mk (Kd.S_lower (Kd.S_mono (ok' := (fun k_ => w3_.heap.size ≤ k_ ∧ k_ < w4_.heap.size)) (Kd.S_bound ho0_) (fun k_ hk_ => ⟨hk_.2.1, hk_.2.2.1⟩)) HB.out.size)
  replace HB := Aside0.mk (below_then HB.out HB.out.size hb)
  clear hb ho0_
  go_wp2_with fail
  (with_reducible refine (impl_AlignLanes.calls k _ _ t5 t6 t4 _ (Kd.S_reads' HO4_0.out).2.2 (Kd.S_reads' HO4_0.out).2.1 A5.out).mono ?_)
  rintro e w5_ ⟨v0_, rfl, ho0_, hb⟩
  have hs5 := Aside0.mk hb.size
  replace HO2_0 := Aside0.mk (Kd.S_below HO2_0.out hb)
  replace HO3_0 := Aside0.mk (Kd.S_below HO3_0.out hb)
  replace HO4_0 := Aside0.mk (Kd.S_below HO4_0.out hb)
  obtain ⟨Ao5_0, co5_0, ev_⟩ := Kd.S_slice ho0_
  subst ev_
  have HO5_0 := Aside0.mk (Kd.S_lower (Kd.S_mono (ok' := (fun k_ => w4_.heap.size ≤ k_ ∧ k_ < w5_.heap.size)) (Kd.S_bound ho0_) (fun k_ hk_ => ⟨hk_.2.1, hk_.2.2.1⟩)) HB.out.size)
  replace HB := Aside0.mk (below_then HB.out HB.out.size hb)
  clear hb ho0_
  go_wp2_with fail
  (with_reducible refine (laws_eqIntSS.calls k _ _ t6 _ _ t3 true _ (Kd.S_reads' HO5_0.out).2.2 (Kd.S_reads' HO5_0.out).2.1 (Kd.S_reads' HO3_0.out).2.2 (Kd.S_reads' HO3_0.out).2.1 A6.out).mono ?_)
  rintro e w6_ ⟨rfl, hb⟩
  replace hb := Drawn0.below hb
  have hs6 := Aside0.mk hb.size
  replace HO2_0 := Aside0.mk (Kd.S_below HO2_0.out hb)
  replace HO3_0 := Aside0.mk (Kd.S_below HO3_0.out hb)
  replace HO4_0 := Aside0.mk (Kd.S_below HO4_0.out hb)
  replace HO5_0 := Aside0.mk (Kd.S_below HO5_0.out hb)
  replace HB := Aside0.mk (below_then HB.out HB.out.size hb)
  clear hb 
  go_wp2_with fail
  (with_reducible refine (laws_toIntSS.calls k _ _ l0 t9 _ (Kd.C_below HR0.out HB.out) HC0.out A7.out).mono ?_)
  rintro e w7_ ⟨v0_, rfl, ho0_, hb⟩
  have hs7 := Aside0.mk hb.size
  replace HO2_0 := Aside0.mk (Kd.S_below HO2_0.out hb)
  replace HO3_0 := Aside0.mk (Kd.S_below HO3_0.out hb)
  replace HO4_0 := Aside0.mk (Kd.S_below HO4_0.out hb)
  replace HO5_0 := Aside0.mk (Kd.S_below HO5_0.out hb)
  obtain ⟨Ao7_0, co7_0, ev_⟩ := Kd.S_slice ho0_
  subst ev_
  have HO7_0 := Aside0.mk (Kd.S_lower (Kd.S_mono (ok' := (fun k_ => w6_.heap.size ≤ k_ ∧ k_ < w7_.heap.size)) (Kd.S_bound ho0_) (fun k_ hk_ => ⟨hk_.2.1, hk_.2.2.1⟩)) HB.out.size)
  replace HB := Aside0.mk (below_then HB.out HB.out.size hb)
  clear hb ho0_
  go_wp2_with fail
  (with_reducible refine (laws_eqIntSS.calls k _ _ t5 _ _ t9 true _ (Kd.S_reads' HO4_0.out).2.2 (Kd.S_reads' HO4_0.out).2.1 (Kd.S_reads' HO7_0.out).2.2 (Kd.S_reads' HO7_0.out).2.1 A8.out).mono ?_)
  rintro e w8_ ⟨rfl, hb⟩
  replace hb := Drawn0.below hb
  have hs8 := Aside0.mk hb.size
  replace HO2_0 := Aside0.mk (Kd.S_below HO2_0.out hb)
  replace HO3_0 := Aside0.mk (Kd.S_below HO3_0.out hb)
  replace HO4_0 := Aside0.mk (Kd.S_below HO4_0.out hb)
  replace HO5_0 := Aside0.mk (Kd.S_below HO5_0.out hb)
  replace HO7_0 := Aside0.mk (Kd.S_below HO7_0.out hb)
  replace HB := Aside0.mk (below_then HB.out HB.out.size hb)
  clear hb 
  go_wp2_with fail
  (with_reducible refine (laws_markIntSS.calls k (fun k_ => w3_.heap.size ≤ k_ ∧ k_ < w4_.heap.size) (.slice Ao4_0 t5.length co4_0) t5 1 t11 t12 w _ HB.out HO4_0.out A9.out).mono ?_)
  rintro e w9_ ⟨rfl, ho0_, ho1_, hkp⟩
  have hs9 := Aside0.mk hkp.1
  replace HO2_0 := Aside0.mk (Kd.S_kept HO2_0.out hkp (fun k_ hk_ hs_ => by obtain ⟨hk1_, hk2_⟩ := hk_; obtain ⟨hs1_, hs2_⟩ := hs_; have := hs1.out; have := hs2.out; have := hs3.out; have := hs4.out; have := hs5.out; have := hs6.out; have := hs7.out; have := hs8.out; have := hs9.out; omega))
  replace HO3_0 := Aside0.mk (Kd.S_kept HO3_0.out hkp (fun k_ hk_ hs_ => by obtain ⟨hk1_, hk2_⟩ := hk_; obtain ⟨hs1_, hs2_⟩ := hs_; have := hs1.out; have := hs2.out; have := hs3.out; have := hs4.out; have := hs5.out; have := hs6.out; have := hs7.out; have := hs8.out; have := hs9.out; omega))
  replace HO5_0 := Aside0.mk (Kd.S_kept HO5_0.out hkp (fun k_ hk_ hs_ => by obtain ⟨hk1_, hk2_⟩ := hk_; obtain ⟨hs1_, hs2_⟩ := hs_; have := hs1.out; have := hs2.out; have := hs3.out; have := hs4.out; have := hs5.out; have := hs6.out; have := hs7.out; have := hs8.out; have := hs9.out; omega))
  replace HO7_0 := Aside0.mk (Kd.S_kept HO7_0.out hkp (fun k_ hk_ hs_ => by obtain ⟨hk1_, hk2_⟩ := hk_; obtain ⟨hs1_, hs2_⟩ := hs_; have := hs1.out; have := hs2.out; have := hs3.out; have := hs4.out; have := hs5.out; have := hs6.out; have := hs7.out; have := hs8.out; have := hs9.out; omega))
  replace HO4_0 := Aside0.mk ho0_
  have LQHO4_0 := Aside0.mk (Kd.S_reads' HO4_0.out).1.symm
  replace HB := Aside0.mk ho1_
  clear hkp ho0_ ho1_
  go_wp2_with fail
  (with_reducible refine (laws_eqIntSS.calls k _ _ t6 _ _ t3 true _ (Kd.S_reads' HO5_0.out).2.2 (Kd.S_reads' HO5_0.out).2.1 (Kd.S_reads' HO3_0.out).2.2 (Kd.S_reads' HO3_0.out).2.1 A10.out).mono ?_)
  rintro e w10_ ⟨rfl, hb⟩
  replace hb := Drawn0.below hb
  have hs10 := Aside0.mk hb.size
  replace HO2_0 := Aside0.mk (Kd.S_below HO2_0.out hb)
  replace HO3_0 := Aside0.mk (Kd.S_below HO3_0.out hb)
  replace HO4_0 := Aside0.mk (Kd.S_below HO4_0.out hb)
  replace HO5_0 := Aside0.mk (Kd.S_below HO5_0.out hb)
  replace HO7_0 := Aside0.mk (Kd.S_below HO7_0.out hb)
  replace HB := Aside0.mk (below_then HB.out HB.out.size hb)
  clear hb 
  go_wp2_with fail
  (with_reducible refine (laws_markIntSS.calls k (fun k_ => w4_.heap.size ≤ k_ ∧ k_ < w5_.heap.size) (.slice Ao5_0 t6.length co5_0) t6 1 t14 t15 w _ HB.out HO5_0.out A11.out).mono ?_)
  rintro e w11_ ⟨rfl, ho0_, ho1_, hkp⟩
  have hs11 := Aside0.mk hkp.1
  replace HO2_0 := Aside0.mk (Kd.S_kept HO2_0.out hkp (fun k_ hk_ hs_ => by obtain ⟨hk1_, hk2_⟩ := hk_; obtain ⟨hs1_, hs2_⟩ := hs_; have := hs1.out; have := hs2.out; have := hs3.out; have := hs4.out; have := hs5.out; have := hs6.out; have := hs7.out; have := hs8.out; have := hs9.out; have := hs10.out; have := hs11.out; omega))
  replace HO3_0 := Aside0.mk (Kd.S_kept HO3_0.out hkp (fun k_ hk_ hs_ => by obtain ⟨hk1_, hk2_⟩ := hk_; obtain ⟨hs1_, hs2_⟩ := hs_; have := hs1.out; have := hs2.out; have := hs3.out; have := hs4.out; have := hs5.out; have := hs6.out; have := hs7.out; have := hs8.out; have := hs9.out; have := hs10.out; have := hs11.out; omega))
  replace HO4_0 := Aside0.mk (Kd.S_kept HO4_0.out hkp (fun k_ hk_ hs_ => by obtain ⟨hk1_, hk2_⟩ := hk_; obtain ⟨hs1_, hs2_⟩ := hs_; have := hs1.out; have := hs2.out; have := hs3.out; have := hs4.out; have := hs5.out; have := hs6.out; have := hs7.out; have := hs8.out; have := hs9.out; have := hs10.out; have := hs11.out; omega))
  replace HO7_0 := Aside0.mk (Kd.S_kept HO7_0.out hkp (fun k_ hk_ hs_ => by obtain ⟨hk1_, hk2_⟩ := hk_; obtain ⟨hs1_, hs2_⟩ := hs_; have := hs1.out; have := hs2.out; have := hs3.out; have := hs4.out; have := hs5.out; have := hs6.out; have := hs7.out; have := hs8.out; have := hs9.out; have := hs10.out; have := hs11.out; omega))
  replace HO5_0 := Aside0.mk ho0_
  have LQHO5_0 := Aside0.mk (Kd.S_reads' HO5_0.out).1.symm
  replace HB := Aside0.mk ho1_
  clear hkp ho0_ ho1_
  go_wp2_with fail
  refine (calls_cast (by rw [LQHO5_0.out]) (laws_heldIntSS.calls k _ _ t15 1 t14 _ (Kd.S_reads' HO5_0.out).2.2 (by rw [LQHO5_0.out]; exact (Kd.S_reads' HO5_0.out).2.1) A12.out)).mono ?_
  rintro e w12_ ⟨rfl, hb⟩
  replace hb := Drawn0.below hb
  have hs12 := Aside0.mk hb.size
  replace HO2_0 := Aside0.mk (Kd.S_below HO2_0.out hb)
  replace HO3_0 := Aside0.mk (Kd.S_below HO3_0.out hb)
  replace HO4_0 := Aside0.mk (Kd.S_below HO4_0.out hb)
  replace HO5_0 := Aside0.mk (Kd.S_below HO5_0.out hb)
  replace HO7_0 := Aside0.mk (Kd.S_below HO7_0.out hb)
  replace HB := Aside0.mk (below_then HB.out HB.out.size hb)
  clear hb 
  go_wp2_with fail
  (with_reducible refine (laws_toIntSS.calls k _ _ l0 t17 _ (Kd.C_below HR0.out HB.out) HC0.out A13.out).mono ?_)
  rintro e w13_ ⟨v0_, rfl, ho0_, hb⟩
  have hs13 := Aside0.mk hb.size
  replace HO2_0 := Aside0.mk (Kd.S_below HO2_0.out hb)
  replace HO3_0 := Aside0.mk (Kd.S_below HO3_0.out hb)
  replace HO4_0 := Aside0.mk (Kd.S_below HO4_0.out hb)
  replace HO5_0 := Aside0.mk (Kd.S_below HO5_0.out hb)
  replace HO7_0 := Aside0.mk (Kd.S_below HO7_0.out hb)
  obtain ⟨Ao13_0, co13_0, ev_⟩ := Kd.S_slice ho0_
  subst ev_
  have HO13_0 := Aside0.mk (Kd.S_lower (Kd.S_mono (ok' := (fun k_ => w12_.heap.size ≤ k_ ∧ k_ < w13_.heap.size)) (Kd.S_bound ho0_) (fun k_ hk_ => ⟨hk_.2.1, hk_.2.2.1⟩)) HB.out.size)
  replace HB := Aside0.mk (below_then HB.out HB.out.size hb)
  clear hb ho0_
  go_wp2_with fail
  (with_reducible refine (impl_AlignLanes.calls k _ _ t17 t18 t4 _ (Kd.S_reads' HO13_0.out).2.2 (Kd.S_reads' HO13_0.out).2.1 A14.out).mono ?_)
  rintro e w14_ ⟨v0_, rfl, ho0_, hb⟩
  have hs14 := Aside0.mk hb.size
  replace HO2_0 := Aside0.mk (Kd.S_below HO2_0.out hb)
  replace HO3_0 := Aside0.mk (Kd.S_below HO3_0.out hb)
  replace HO4_0 := Aside0.mk (Kd.S_below HO4_0.out hb)
  replace HO5_0 := Aside0.mk (Kd.S_below HO5_0.out hb)
  replace HO7_0 := Aside0.mk (Kd.S_below HO7_0.out hb)
  replace HO13_0 := Aside0.mk (Kd.S_below HO13_0.out hb)
  obtain ⟨Ao14_0, co14_0, ev_⟩ := Kd.S_slice ho0_
  subst ev_
  have HO14_0 := Aside0.mk (Kd.S_lower (Kd.S_mono (ok' := (fun k_ => w13_.heap.size ≤ k_ ∧ k_ < w14_.heap.size)) (Kd.S_bound ho0_) (fun k_ hk_ => ⟨hk_.2.1, hk_.2.2.1⟩)) HB.out.size)
  replace HB := Aside0.mk (below_then HB.out HB.out.size hb)
  clear hb ho0_
  go_wp2_with fail
  (with_reducible refine (laws_eqIntSS.calls k _ _ t18 _ _ t3 true _ (Kd.S_reads' HO14_0.out).2.2 (Kd.S_reads' HO14_0.out).2.1 (Kd.S_reads' HO3_0.out).2.2 (Kd.S_reads' HO3_0.out).2.1 A15.out).mono ?_)
  rintro e w15_ ⟨rfl, hb⟩
  replace hb := Drawn0.below hb
  have hs15 := Aside0.mk hb.size
  replace HO2_0 := Aside0.mk (Kd.S_below HO2_0.out hb)
  replace HO3_0 := Aside0.mk (Kd.S_below HO3_0.out hb)
  replace HO4_0 := Aside0.mk (Kd.S_below HO4_0.out hb)
  replace HO5_0 := Aside0.mk (Kd.S_below HO5_0.out hb)
  replace HO7_0 := Aside0.mk (Kd.S_below HO7_0.out hb)
  replace HO13_0 := Aside0.mk (Kd.S_below HO13_0.out hb)
  replace HO14_0 := Aside0.mk (Kd.S_below HO14_0.out hb)
  replace HB := Aside0.mk (below_then HB.out HB.out.size hb)
  clear hb 
  go_wp2_with fail
  refine (calls_cast (by rw [LQHO5_0.out]) (laws_heldIntSS.calls k _ _ t15 1 t14 _ (Kd.S_reads' HO5_0.out).2.2 (by rw [LQHO5_0.out]; exact (Kd.S_reads' HO5_0.out).2.1) A16.out)).mono ?_
  rintro e w16_ ⟨rfl, hb⟩
  replace hb := Drawn0.below hb
  have hs16 := Aside0.mk hb.size
  replace HO2_0 := Aside0.mk (Kd.S_below HO2_0.out hb)
  replace HO3_0 := Aside0.mk (Kd.S_below HO3_0.out hb)
  replace HO4_0 := Aside0.mk (Kd.S_below HO4_0.out hb)
  replace HO5_0 := Aside0.mk (Kd.S_below HO5_0.out hb)
  replace HO7_0 := Aside0.mk (Kd.S_below HO7_0.out hb)
  replace HO13_0 := Aside0.mk (Kd.S_below HO13_0.out hb)
  replace HO14_0 := Aside0.mk (Kd.S_below HO14_0.out hb)
  replace HB := Aside0.mk (below_then HB.out HB.out.size hb)
  clear hb 
  go_wp2
  go_ret
  exact ⟨rfl, HB.out⟩


/-- THE ONE PURE STATEMENT of laws_FnExactAlignLanes. -/
def laws_FnExactAlignLanes.Pure : Prop := ∀ (l0 : List (List Int)), (l0.length ≤ 9223372036854775807 ∧ ∀ e189 ∈ l0, e189.length ≤ 9223372036854775807 ∧ ∀ e190 ∈ e189, (Lit.int .i64 e190).wf = true) → ∃ k, laws_FnExactAlignLanes.f k l0 = some true

end Go.Proofs.Ytoafbbopicbofaa.PFnExactAlignLanes
