-- Written by a program of this session (wip/xp): not trusted, Lean checks it.
import Derived.Test.YtbdehpmfemgooaaPFnPassersx0
import Derived.Test.YtbdehpmfemgooaaPFnPassersx1
import Derived.Test.YtbdehpmfemgooaaPFnPassersx4
import Derived.Test.YtbdehpmfemgooaaPFnPassersx8
namespace Go.Proofs.Ytbdehpmfemgooaa.PFnPassers
open Go.RowKit Go.Proofs.YtbdehpmfemgooaaW.PrintWords Go.Proofs.YtbdehpmfemgooaaW.PrintLast Go.Proofs.YtbdehpmfemgooaaW.PrintMore
attribute [local go_sem] max2_int min2_int max_two min_two max_three min_three max_four min_four   -- for this text's walks alone
set_option linter.unusedVariables false
set_option linter.unusedSimpArgs false

/-! ### impl_IsLegalOrder: function 29 -/
mutual
def impl_IsLegalOrder.l0 : Nat → List (S60) → List Int → List Int → Int → Int → Option (Bool)
  | 0, _, _, _, _, _ => none
  | k + 1, x0, x1, x9, x10, x11 => if x11 < x10 then (if 0 ≤ x11 then (if x11 < (x9.length : Int) then ((impl_within.f (rd x9 x11) 0 (wrap64 ((x0.length : Int) - 1))).bind fun t315 => (if t315 = true then (if x11 ≤ (x1.length : Int) then ((slices_Contains_int_int.f k (x1.take (x11 : Int).toNat) (rd x9 x11)).bind fun t317 => (impl_IsLegalOrder.j1 k x0 x1 x11 (rd x9 x11) x9 x10 x11 t317)) else (none)) else (impl_IsLegalOrder.j1 k x0 x1 x11 (rd x9 x11) x9 x10 x11 true))) else (none)) else (none)) else (some ((x1.length : Int) == (x0.length : Int)))
def impl_IsLegalOrder.j1 : Nat → List (S60) → List Int → Int → Int → List Int → Int → Int → Bool → Option (Bool)
  | 0, _, _, _, _, _, _, _, _ => none
  | k + 1, x0, x1, x5, x6, x9, x10, x11, x28 => if x28 = true then (some false) else (if 0 ≤ x5 then (if x5 ≤ (x1.length : Int) then (impl_IsLegalOrder.l1 k x0 x1 x6 x9 x10 x11 (x1.take (x5 : Int).toNat) ((x1.take (x5 : Int).toNat).length : Int) 0) else (none)) else (none))
def impl_IsLegalOrder.l1 : Nat → List (S60) → List Int → Int → List Int → Int → Int → List Int → Int → Int → Option (Bool)
  | 0, _, _, _, _, _, _, _, _, _ => none
  | k + 1, x0, x1, x6, x9, x10, x11, x31, x32, x33 => if x33 < x32 then (if 0 ≤ x33 then (if x33 < (x31.length : Int) then (if x6 < (rd x31 x33) then (if 0 ≤ (rd x31 x33) then (if (rd x31 x33) < (x0.length : Int) then (if 0 ≤ x6 then (if x6 < (x0.length : Int) then ((impl_MayPass.f k ((rd_T60 x0 (rd x31 x33)).f0) ((rd_T60 x0 (rd x31 x33)).f1) ((rd_T60 x0 (rd x31 x33)).f2) ((rd_T60 x0 (rd x31 x33)).f3) ((rd_T60 x0 (rd x31 x33)).f4) ((rd_T60 x0 (rd x31 x33)).f5) ((rd_T60 x0 (rd x31 x33)).f6) ((rd_T60 x0 (rd x31 x33)).f7) ((rd_T60 x0 x6).f0) ((rd_T60 x0 x6).f1) ((rd_T60 x0 x6).f2) ((rd_T60 x0 x6).f3) ((rd_T60 x0 x6).f4) ((rd_T60 x0 x6).f5) ((rd_T60 x0 x6).f6) ((rd_T60 x0 x6).f7)).bind fun t322 => (if t322 = true then (impl_IsLegalOrder.l1 k x0 x1 x6 x9 x10 x11 x31 x32 (wrap64 (x33 + 1))) else (some false))) else (none)) else (none)) else (none)) else (none)) else (impl_IsLegalOrder.l1 k x0 x1 x6 x9 x10 x11 x31 x32 (wrap64 (x33 + 1)))) else (none)) else (none)) else (impl_IsLegalOrder.l0 k x0 x1 x9 x10 (wrap64 (x11 + 1)))
end
def impl_IsLegalOrder.f (k : Nat) (l0 : List (S60)) (l1 : List Int) : Option (Bool) := impl_IsLegalOrder.l0 k l0 l1 l1 (l1.length : Int) 0
theorem impl_IsLegalOrder.mono_l : ∀ k, (∀ y0 y1 y2 y3 y4, LeO (impl_IsLegalOrder.l0 k y0 y1 y2 y3 y4) (impl_IsLegalOrder.l0 (k + 1) y0 y1 y2 y3 y4)) ∧ (∀ y0 y1 y2 y3 y4 y5 y6 y7, LeO (impl_IsLegalOrder.j1 k y0 y1 y2 y3 y4 y5 y6 y7) (impl_IsLegalOrder.j1 (k + 1) y0 y1 y2 y3 y4 y5 y6 y7)) ∧ (∀ y0 y1 y2 y3 y4 y5 y6 y7 y8, LeO (impl_IsLegalOrder.l1 k y0 y1 y2 y3 y4 y5 y6 y7 y8) (impl_IsLegalOrder.l1 (k + 1) y0 y1 y2 y3 y4 y5 y6 y7 y8))
  | 0 => ⟨fun _ _ _ _ _ r h => by simp [impl_IsLegalOrder.l0] at h, fun _ _ _ _ _ _ _ _ r h => by simp [impl_IsLegalOrder.j1] at h, fun _ _ _ _ _ _ _ _ _ r h => by simp [impl_IsLegalOrder.l1] at h⟩
  | k + 1 => by
    obtain ⟨ih0, ih1, ih2⟩ := impl_IsLegalOrder.mono_l k
    refine ⟨?_, ?_, ?_⟩
    · intro y0 y1 y2 y3 y4
      unfold impl_IsLegalOrder.l0
      repeat' first
      | (with_reducible exact ih0 _ _ _ _ _)
      | (with_reducible exact ih1 _ _ _ _ _ _ _ _)
      | (with_reducible exact ih2 _ _ _ _ _ _ _ _ _)
      | (with_reducible exact impl_MayPass.mono _ _ _ _ _ _ _ _ _ _ _ _ _ _ _ _ _)
      | (with_reducible exact slices_Contains_int_int.mono _ _ _)
      | (with_reducible exact LeO.refl _)
      | (with_reducible exact LeO.none _)
      | (with_reducible refine LeO.ite ?_ ?_)
      | (with_reducible refine LeO.bind ?_ (fun _ => ?_))
      | exact ih0 _ _ _ _ _
      | exact ih1 _ _ _ _ _ _ _ _
      | exact ih2 _ _ _ _ _ _ _ _ _
      | exact impl_MayPass.mono _ _ _ _ _ _ _ _ _ _ _ _ _ _ _ _ _
      | exact slices_Contains_int_int.mono _ _ _
      | exact LeO.none _
      | refine LeO.ite ?_ ?_
      | refine LeO.bind ?_ (fun _ => ?_)
    · intro y0 y1 y2 y3 y4 y5 y6 y7
      unfold impl_IsLegalOrder.j1
      repeat' first
      | (with_reducible exact ih0 _ _ _ _ _)
      | (with_reducible exact ih1 _ _ _ _ _ _ _ _)
      | (with_reducible exact ih2 _ _ _ _ _ _ _ _ _)
      | (with_reducible exact impl_MayPass.mono _ _ _ _ _ _ _ _ _ _ _ _ _ _ _ _ _)
      | (with_reducible exact slices_Contains_int_int.mono _ _ _)
      | (with_reducible exact LeO.refl _)
      | (with_reducible exact LeO.none _)
      | (with_reducible refine LeO.ite ?_ ?_)
      | (with_reducible refine LeO.bind ?_ (fun _ => ?_))
      | exact ih0 _ _ _ _ _
      | exact ih1 _ _ _ _ _ _ _ _
      | exact ih2 _ _ _ _ _ _ _ _ _
      | exact impl_MayPass.mono _ _ _ _ _ _ _ _ _ _ _ _ _ _ _ _ _
      | exact slices_Contains_int_int.mono _ _ _
      | exact LeO.none _
      | refine LeO.ite ?_ ?_
      | refine LeO.bind ?_ (fun _ => ?_)
    · intro y0 y1 y2 y3 y4 y5 y6 y7 y8
      unfold impl_IsLegalOrder.l1
      repeat' first
      | (with_reducible exact ih0 _ _ _ _ _)
      | (with_reducible exact ih1 _ _ _ _ _ _ _ _)
      | (with_reducible exact ih2 _ _ _ _ _ _ _ _ _)
      | (with_reducible exact impl_MayPass.mono _ _ _ _ _ _ _ _ _ _ _ _ _ _ _ _ _)
      | (with_reducible exact slices_Contains_int_int.mono _ _ _)
      | (with_reducible exact LeO.refl _)
      | (with_reducible exact LeO.none _)
      | (with_reducible refine LeO.ite ?_ ?_)
      | (with_reducible refine LeO.bind ?_ (fun _ => ?_))
      | exact ih0 _ _ _ _ _
      | exact ih1 _ _ _ _ _ _ _ _
      | exact ih2 _ _ _ _ _ _ _ _ _
      | exact impl_MayPass.mono _ _ _ _ _ _ _ _ _ _ _ _ _ _ _ _ _
      | exact slices_Contains_int_int.mono _ _ _
      | exact LeO.none _
      | refine LeO.ite ?_ ?_
      | refine LeO.bind ?_ (fun _ => ?_)
theorem impl_IsLegalOrder.mono : ∀ a0 a1 k, LeO (impl_IsLegalOrder.f k a0 a1) (impl_IsLegalOrder.f (k + 1) a0 a1) := by
  intro a0 a1 k
  obtain ⟨ih0, ih1, ih2⟩ := impl_IsLegalOrder.mono_l k
  unfold impl_IsLegalOrder.f
  repeat' first
      | (with_reducible exact ih0 _ _ _ _ _)
      | (with_reducible exact ih1 _ _ _ _ _ _ _ _)
      | (with_reducible exact ih2 _ _ _ _ _ _ _ _ _)
      | (with_reducible exact impl_MayPass.mono _ _ _ _ _ _ _ _ _ _ _ _ _ _ _ _ _)
      | (with_reducible exact slices_Contains_int_int.mono _ _ _)
      | (with_reducible exact LeO.refl _)
      | (with_reducible exact LeO.none _)
      | (with_reducible refine LeO.ite ?_ ?_)
      | (with_reducible refine LeO.bind ?_ (fun _ => ?_))
      | exact ih0 _ _ _ _ _
      | exact ih1 _ _ _ _ _ _ _ _
      | exact ih2 _ _ _ _ _ _ _ _ _
      | exact impl_MayPass.mono _ _ _ _ _ _ _ _ _ _ _ _ _ _ _ _ _
      | exact slices_Contains_int_int.mono _ _ _
      | exact LeO.none _
      | refine LeO.ite ?_ ?_
      | refine LeO.bind ?_ (fun _ => ?_)
def impl_IsLegalOrder.T9 : Bool × List (List Nat × List Nat) := (true, [([], []), ([], []), ([0, 1], [0, 1]), ([2], [2]), ([3], [3]), ([3], [3]), ([4, 5, 3], [3, 4, 5]), ([6, 3], [3, 6]), ([3], [3]), ([3], [3]), ([8, 9, 3], [3, 8, 9]), ([10, 3], [3, 10]), ([7, 11, 3, 3], [3, 7, 11]), ([12, 3], [3, 12]), ([3, 13], [3, 13])])
def impl_IsLegalOrder.B9 : List Nat := [0, 0, 3, 7, 15, 15, 63, 127, 15, 15, 783, 1807, 4095, 8191, 16383]
theorem impl_IsLegalOrder.tab9 : rtab .any (opsOf Try.f29 9) = impl_IsLegalOrder.T9 := by kernel_rfl
theorem impl_IsLegalOrder.bits9 : waitsOk impl_IsLegalOrder.T9.2 impl_IsLegalOrder.B9 = true := by kernel_rfl
set_option maxHeartbeats 8000000 in
set_option maxRecDepth 100000 in
theorem impl_IsLegalOrder.calls (k : Nat) (A0 : Option Addr) (c0 : Nat) (l0 : List (S60)) (A1 : Option Addr) (c1 : Nat) (l1 : List Int) (r : Bool) (w : World) (hr0 : Kd.C k60 w A0 l0.length l0) (hc0 : l0.length ≤ c0) (hr1 : Kd.C (Kd.int .i64) w A1 l1.length l1) (hc1 : l1.length ≤ c1) (h : impl_IsLegalOrder.f k l0 l1 = some r) :
    Calls Try.prog 29 #[.slice A0 l0.length c0, .slice A1 l1.length c1] w fun e w' => e = .returned (.bool r) ∧ Below w.heap.size w w' := by
  have hu60 := Try.underlying60
  have HR0 := Aside0.mk hr0
  have HC0 := Aside0.mk hc0
  clear hr0 hc0
  have HR1 := Aside0.mk hr1
  have HC1 := Aside0.mk hc1
  clear hr1 hc1
  have HB := Aside0.mk (Below.refl w.heap.size w)
  have H : (impl_IsLegalOrder.l0 k l0 l1 l1 (l1.length : Int) 0) = some r := h
  clear h
  have H' := Aside0.mk H
  clear H
  go_enter Try.func29, Try.ntmps29
  go_wp2
  go_loopg [11] k (fun kq v11 w' => ∃ (x11_1 : Int), v11 = .int .i64 x11_1 ∧ Aside0 (impl_IsLegalOrder.l0 kq l0 l1 l1 (l1.length : Int) x11_1 = some r) ∧ Aside0 (kq ≤ k) ∧ Aside0 (Below w.heap.size w w'))
  case atStart => exact ⟨(0), (by first | rfl | (simp; done) | (simp [*]; done)), H', ⟨Nat.le_refl _⟩, ⟨by repeat (first | (with_reducible first | exact HB.out | apply below_alloc | apply pw_below_drewN | apply below_drew1) | exact HB.out)⟩⟩
  case round =>
    clear H'
    try clear c1
    try clear c2
    try clear p2
    obtain ⟨x11_1, rfl, HA, HK1, HB⟩ := hrel
    cases gk with
    | zero => exact absurd HA.out (by simp [impl_IsLegalOrder.l0])
    | succ k1 =>
      have H := HA.out
      clear HA
      simp only [impl_IsLegalOrder.l0] at H
      by_cases c3 : x11_1 < (l1.length : Int)
      · rw [if_pos c3] at H
        have c3b0 : decide (x11_1 < (l1.length : Int)) = true := decide_eq_true c3
        clear c3
        by_cases c4 : 0 ≤ x11_1
        · rw [if_pos c4] at H
          have c4b0 : decide (0 ≤ x11_1) = true := decide_eq_true c4
          clear c4
          by_cases c5 : x11_1 < (l1.length : Int)
          · rw [if_pos c5] at H
            have c5b0 : decide (x11_1 < (l1.length : Int)) = true := decide_eq_true c5
            clear c5
            have HC6 := Aside0.mk H
            clear H
            have p314 : 0 ≤ (x11_1 : Int) := of_decide_eq_true (by first | (with_reducible assumption) | assumption)
            have q314 : x11_1 < (l1.length : Int) := of_decide_eq_true (by first | (with_reducible assumption) | assumption)
            obtain ⟨ad314, e314, hx314_0⟩ := Kd.at_int HR1.out x11_1 p314 q314
            cases e314
            replace hx314_0 := (HB.out.cell (World.block_lt_of_cell? w _ hx314_0)).trans hx314_0
            replace p314 := eq_true p314
            replace q314 := eq_true q314
            go_upto_region 4 with (fail)
            go_cut [28] (fun v28 wc => ∃ (kq : Nat) (x28_5 : Bool), v28 = .bool x28_5 ∧ Aside0 (impl_IsLegalOrder.j1 kq l0 l1 x11_1 (rd l1 x11_1) l1 (l1.length : Int) x11_1 x28_5 = some r) ∧ Aside0 (kq ≤ k1) ∧ Aside0 (Below w.heap.size w wc))
            case first =>
              have H := HC6.out
              clear HC6
              replace H := Option.bind_eq_some_iff.mp H
              obtain ⟨t315, A70, H⟩ := H
              replace H : (if t315 = true then (if x11_1 ≤ (l1.length : Int) then ((slices_Contains_int_int.f k1 (l1.take (x11_1 : Int).toNat) (rd l1 x11_1)).bind fun t317 => (impl_IsLegalOrder.j1 k1 l0 l1 x11_1 (rd l1 x11_1) l1 (l1.length : Int) x11_1 t317)) else (none)) else (impl_IsLegalOrder.j1 k1 l0 l1 x11_1 (rd l1 x11_1) l1 (l1.length : Int) x11_1 true)) = some r := H
              have A7 := Aside0.mk A70
              clear A70
              by_cases c8 : t315 = true
              · subst c8
                have H1 : (if x11_1 ≤ (l1.length : Int) then ((slices_Contains_int_int.f k1 (l1.take (x11_1 : Int).toNat) (rd l1 x11_1)).bind fun t317 => (impl_IsLegalOrder.j1 k1 l0 l1 x11_1 (rd l1 x11_1) l1 (l1.length : Int) x11_1 t317)) else (none)) = some r := by rw [if_pos rfl] at H; exact H
                clear H
                have H := H1
                clear H1
                have c9b0 := eq_true (of_decide_eq_true (by first | (with_reducible assumption) | assumption) : 0 ≤ x11_1)
                by_cases c10 : x11_1 ≤ (l1.length : Int)
                · rw [if_pos c10] at H
                  have c10b0 := eq_true c10
                  have c10b1 : decide (x11_1 ≤ (l1.length : Int)) = true := decide_eq_true c10
                  clear c10
                  replace H := Option.bind_eq_some_iff.mp H
                  obtain ⟨t317, A110, H⟩ := H
                  replace H : (impl_IsLegalOrder.j1 k1 l0 l1 x11_1 (rd l1 x11_1) l1 (l1.length : Int) x11_1 t317) = some r := H
                  have A11 := Aside0.mk A110
                  clear A110
                  have H' := Aside0.mk H
                  clear H
                  go_wp2_with (first | ((with_reducible refine gate_callee (f := 55) rfl ?_); refine goesL_ (some 20) rfl rfl Try.func55 (by kernel_rfl) rfl #[.int .i64 (rd l1 x11_1), .int .i64 0, .int .i64 (wrap64 ((l0.length : Int) - 1))] rfl (by (try simp only [List.map_toArray, List.map_cons, List.map_nil]); first | done | rfl | (simp only [List.length_drop, List.length_take]; rfl)) ?_; (with_reducible refine (impl_within.calls (rd l1 x11_1) 0 (wrap64 ((l0.length : Int) - 1)) true _ A7.out).mono ?_); rintro e w' ⟨rfl, ⟨nd, rfl⟩⟩; refine ⟨_, rfl, ?_⟩; obtain ⟨i012, hi012, _, hsz12, _⟩ := info_parts info3; obtain ⟨hcut12, hA12, hC12⟩ := print_take_of (P := Try.prog) (Value.int .i64) 0 22 3 .i64 Try.underlying22 hi012 hsz12 (some ad314) c1 l1 x11_1 (of_decide_eq_true (by first | (with_reducible assumption) | assumption)) (of_decide_eq_true (by first | (with_reducible assumption) | assumption)) HC1.out; have HR316 := Aside0.mk (Kd.C_of_reads (h1 := fun _ => rfl) (hA12 _ (Kd.reads_of_C HR1.out))); have HC316 := Aside0.mk hC12; clear hA12 hC12 hi012 hsz12) | (go_at_call 56; refine calls_of_args (args' := #[.slice (some ad314) (l1.take (x11_1 : Int).toNat).length c1, .int .i64 (rd l1 x11_1)]) (by have h1 : x11_1 ≤ (l1.length : Int) := of_decide_eq_true (by first | (with_reducible assumption) | assumption); have h0 : 0 ≤ (x11_1 : Int) := of_decide_eq_true (by first | (with_reducible assumption) | assumption); rw [List.length_take, Nat.min_eq_left (by omega)]) ?_; (with_reducible refine (slices_Contains_int_int.calls k1 _ _ (l1.take (x11_1 : Int).toNat) (rd l1 x11_1) t317 _ ?side1 ?side2 A11.out).mono ?_); (case side1 => repeat (first | exact (Kd.C_below HR316.out (by repeat (first | (with_reducible first | exact HB.out | apply below_alloc | apply pw_below_drewN | apply below_drew1) | exact HB.out))) | (with_reducible refine Kd.C_alloc ?_ _) | (with_reducible refine Kd.C_drewN ?_ _) | (with_reducible refine Kd.C_drew ?_))); (case side2 => exact HC316.out); rintro e w' ⟨rfl, ⟨nd, rfl⟩⟩))
                  go_meet
                  case rel => exact ⟨_, (t317), (by first | rfl | (simp; done) | (simp [*]; done)), H', ⟨by have := HK1.out; first | omega | exact Nat.le_refl _⟩, ⟨by repeat (first | (with_reducible first | exact HB.out | apply below_alloc | apply pw_below_drewN | apply below_drew1) | exact HB.out)⟩⟩
                · rw [if_neg c10] at H
                  exact absurd H (by simp)
              · replace c8 := Bool.eq_false_iff.mpr c8
                subst c8
                have H1 : (impl_IsLegalOrder.j1 k1 l0 l1 x11_1 (rd l1 x11_1) l1 (l1.length : Int) x11_1 true) = some r := by rw [if_neg (show ¬ (false = true) by decide)] at H; exact H
                clear H
                have H := H1
                clear H1
                have H' := Aside0.mk H
                clear H
                go_wp2_with (first | ((with_reducible refine gate_callee (f := 55) rfl ?_); refine goesL_ (some 20) rfl rfl Try.func55 (by kernel_rfl) rfl #[.int .i64 (rd l1 x11_1), .int .i64 0, .int .i64 (wrap64 ((l0.length : Int) - 1))] rfl (by (try simp only [List.map_toArray, List.map_cons, List.map_nil]); first | done | rfl | (simp only [List.length_drop, List.length_take]; rfl)) ?_; (with_reducible refine (impl_within.calls (rd l1 x11_1) 0 (wrap64 ((l0.length : Int) - 1)) false _ A7.out).mono ?_); rintro e w' ⟨rfl, ⟨nd, rfl⟩⟩; refine ⟨_, rfl, ?_⟩))
                go_meet
                case rel => exact ⟨_, (true), (by first | rfl | (simp; done) | (simp [*]; done)), H', ⟨by have := HK1.out; first | omega | exact Nat.le_refl _⟩, ⟨by repeat (first | (with_reducible first | exact HB.out | apply below_alloc | apply pw_below_drewN | apply below_drew1) | exact HB.out)⟩⟩
            case rest =>
              clear HC6
              try clear c1
              try clear c2
              try clear p2
              try clear c3
              try clear c3b0
              try clear p3
              try clear q3
              try clear hx3
              try clear c4
              try clear c4b0
              try clear c5
              try clear c5b0
              try clear p6
              try clear c8
              try clear c9
              try clear c9b0
              try clear c10
              try clear c10b0
              try clear c10b1
              try clear hx314_0
              try clear p2
              try clear p314
              try clear q314
              obtain ⟨kq, x28_5, rfl, HA, HJ5, HB⟩ := hcut
              cases kq with
              | zero => exact absurd HA.out (by simp [impl_IsLegalOrder.j1])
              | succ kj5 =>
                have H := HA.out
                clear HA
                simp only [impl_IsLegalOrder.j1] at H
                by_cases c13 : x28_5 = true
                · subst c13
                  have H1 : (some false) = some r := by rw [if_pos rfl] at H; exact H
                  clear H
                  have H := H1
                  clear H1
                  obtain rfl := Option.some.inj H
                  go_wp2
                  go_ret
                  exact ⟨by first | rfl | (simp [errW_none, errW_some] <;> rfl) | (simp [*, errW_none, errW_some] <;> rfl), by repeat (first | (with_reducible first | exact HB.out | apply below_alloc | apply pw_below_drewN | apply below_drew1) | exact HB.out)⟩
                · replace c13 := Bool.eq_false_iff.mpr c13
                  subst c13
                  have H1 : (if 0 ≤ x11_1 then (if x11_1 ≤ (l1.length : Int) then (impl_IsLegalOrder.l1 kj5 l0 l1 (rd l1 x11_1) l1 (l1.length : Int) x11_1 (l1.take (x11_1 : Int).toNat) ((l1.take (x11_1 : Int).toNat).length : Int) 0) else (none)) else (none)) = some r := by rw [if_neg (show ¬ (false = true) by decide)] at H; exact H
                  clear H
                  have H := H1
                  clear H1
                  by_cases c14 : 0 ≤ x11_1
                  · rw [if_pos c14] at H
                    have c14b0 := eq_true c14
                    have c14b1 : decide (0 ≤ x11_1) = true := decide_eq_true c14
                    clear c14
                    by_cases c15 : x11_1 ≤ (l1.length : Int)
                    · rw [if_pos c15] at H
                      have c15b0 := eq_true c15
                      have c15b1 : decide (x11_1 ≤ (l1.length : Int)) = true := decide_eq_true c15
                      clear c15
                      have H' := Aside0.mk H
                      clear H
                      obtain ⟨i016, hi016, _, hsz16, _⟩ := info_parts info3
                      obtain ⟨hcut16, hA16, hC16⟩ := print_take_of (P := Try.prog) (Value.int .i64) 0 22 3 .i64 Try.underlying22 hi016 hsz16 (some ad314) c1 l1 x11_1 (of_decide_eq_true (by first | (with_reducible assumption) | assumption)) (of_decide_eq_true (by first | (with_reducible assumption) | assumption)) HC1.out
                      have HLM16 := Aside0.mk (show (((l1.take (x11_1 : Int).toNat).length : Nat) : Int) = max x11_1 0 from by have h1 : x11_1 ≤ (l1.length : Int) := of_decide_eq_true (by first | (with_reducible assumption) | assumption); have h0 : 0 ≤ (x11_1 : Int) := of_decide_eq_true (by first | (with_reducible assumption) | assumption); rw [List.length_take]; omega)
                      have HR318 := Aside0.mk (Kd.C_of_reads (h1 := fun _ => rfl) (hA16 _ (Kd.reads_of_C HR1.out)))
                      have HC318 := Aside0.mk hC16
                      clear hA16 hC16 hi016 hsz16
                      go_wp2
                      go_loopg [33] kj5 (fun kq v33 w' => ∃ (x33_3 : Int), v33 = .int .i64 x33_3 ∧ Aside0 (impl_IsLegalOrder.l1 kq l0 l1 (rd l1 x11_1) l1 (l1.length : Int) x11_1 (l1.take (x11_1 : Int).toNat) ((l1.take (x11_1 : Int).toNat).length : Int) x33_3 = some r) ∧ Aside0 (kq ≤ kj5) ∧ Aside0 (Below w.heap.size w w'))
                      case atStart => exact ⟨(0), (by first | rfl | (simp; done) | (simp [*]; done)), H', ⟨Nat.le_refl _⟩, ⟨by repeat (first | (with_reducible first | exact HB.out | apply below_alloc | apply pw_below_drewN | apply below_drew1) | exact HB.out)⟩⟩
                      case round =>
                        clear H'
                        try clear c1
                        try clear c2
                        try clear p2
                        try clear c3
                        try clear c3b0
                        try clear p3
                        try clear q3
                        try clear hx3
                        try clear c4
                        try clear c4b0
                        try clear c5
                        try clear c5b0
                        try clear p6
                        try clear c8
                        try clear c9
                        try clear c9b0
                        try clear c10
                        try clear c10b0
                        try clear c10b1
                        try clear c13
                        try clear c14
                        try clear c14b0
                        try clear c14b1
                        try clear c15
                        try clear c15b0
                        try clear c15b1
                        try clear hx314_0
                        try clear p2
                        try clear p3
                        try clear p314
                        try clear p6
                        try clear q3
                        try clear q314
                        obtain ⟨x33_3, rfl, HA, HK3, HB⟩ := hrel
                        cases gk with
                        | zero => exact absurd HA.out (by simp [impl_IsLegalOrder.l1])
                        | succ k3 =>
                          have H := HA.out
                          clear HA
                          simp only [impl_IsLegalOrder.l1] at H
                          by_cases c17 : x33_3 < ((l1.take (x11_1 : Int).toNat).length : Int)
                          · rw [if_pos c17] at H
                            have c17b0 : decide (x33_3 < ((l1.take (x11_1 : Int).toNat).length : Int)) = true := decide_eq_true c17
                            have c17b0m : decide (x33_3 < max x11_1 0) = true := by rw [← HLM16.out]; exact c17b0
                            clear c17
                            by_cases c18 : 0 ≤ x33_3
                            · rw [if_pos c18] at H
                              have c18b0 : decide (0 ≤ x33_3) = true := decide_eq_true c18
                              clear c18
                              by_cases c19 : x33_3 < ((l1.take (x11_1 : Int).toNat).length : Int)
                              · rw [if_pos c19] at H
                                have c19b0 : decide (x33_3 < ((l1.take (x11_1 : Int).toNat).length : Int)) = true := decide_eq_true c19
                                have c19b0m : decide (x33_3 < max x11_1 0) = true := by rw [← HLM16.out]; exact c19b0
                                clear c19
                                by_cases c20 : (rd l1 x11_1) < (rd (l1.take (x11_1 : Int).toNat) x33_3)
                                · rw [if_pos c20] at H
                                  have c20b0 : decide ((rd l1 x11_1) < (rd (l1.take (x11_1 : Int).toNat) x33_3)) = true := decide_eq_true c20
                                  clear c20
                                  by_cases c21 : 0 ≤ (rd (l1.take (x11_1 : Int).toNat) x33_3)
                                  · rw [if_pos c21] at H
                                    have c21b0 : decide (0 ≤ (rd (l1.take (x11_1 : Int).toNat) x33_3)) = true := decide_eq_true c21
                                    clear c21
                                    by_cases c22 : (rd (l1.take (x11_1 : Int).toNat) x33_3) < (l0.length : Int)
                                    · rw [if_pos c22] at H
                                      have c22b0 : decide ((rd (l1.take (x11_1 : Int).toNat) x33_3) < (l0.length : Int)) = true := decide_eq_true c22
                                      clear c22
                                      by_cases c23 : 0 ≤ (rd l1 x11_1)
                                      · rw [if_pos c23] at H
                                        have c23b0 : decide (0 ≤ (rd l1 x11_1)) = true := decide_eq_true c23
                                        clear c23
                                        by_cases c24 : (rd l1 x11_1) < (l0.length : Int)
                                        · rw [if_pos c24] at H
                                          have c24b0 : decide ((rd l1 x11_1) < (l0.length : Int)) = true := decide_eq_true c24
                                          clear c24
                                          replace H := Option.bind_eq_some_iff.mp H
                                          obtain ⟨t322, A250, H⟩ := H
                                          replace H : (if t322 = true then (impl_IsLegalOrder.l1 k3 l0 l1 (rd l1 x11_1) l1 (l1.length : Int) x11_1 (l1.take (x11_1 : Int).toNat) ((l1.take (x11_1 : Int).toNat).length : Int) (wrap64 (x33_3 + 1))) else (some false)) = some r := H
                                          have A25 := Aside0.mk A250
                                          clear A250
                                          by_cases c26 : t322 = true
                                          · subst c26
                                            have H1 : (impl_IsLegalOrder.l1 k3 l0 l1 (rd l1 x11_1) l1 (l1.length : Int) x11_1 (l1.take (x11_1 : Int).toNat) ((l1.take (x11_1 : Int).toNat).length : Int) (wrap64 (x33_3 + 1))) = some r := by rw [if_pos rfl] at H; exact H
                                            clear H
                                            have H := H1
                                            clear H1
                                            have H' := Aside0.mk H
                                            clear H
                                            have p319 : 0 ≤ (x33_3 : Int) := of_decide_eq_true (by first | (with_reducible assumption) | assumption)
                                            have q319 : x33_3 < ((l1.take (x11_1 : Int).toNat).length : Int) := of_decide_eq_true (by first | (with_reducible assumption) | assumption)
                                            have q319m := eq_true (show x33_3 < max x11_1 0 from by rw [← HLM16.out]; exact q319)
                                            obtain ⟨ad319, e319, hx319_0⟩ := Kd.at_int HR318.out x33_3 p319 q319
                                            obtain rfl : ad314 = ad319 := (by injection e319)
                                            replace hx319_0 := (HB.out.cell (World.block_lt_of_cell? w _ hx319_0)).trans hx319_0
                                            replace p319 := eq_true p319
                                            replace q319 := eq_true q319
                                            try go_wp2
                                            have n0_ := Aside0.mk (below_drew1 HB.out)
                                            clear HB
                                            have HB := n0_
                                            clear n0_
                                            have p320 : 0 ≤ ((rd (l1.take (x11_1 : Int).toNat) x33_3) : Int) := of_decide_eq_true (by first | (with_reducible assumption) | assumption)
                                            have q320 : (rd (l1.take (x11_1 : Int).toNat) x33_3) < (l0.length : Int) := of_decide_eq_true (by first | (with_reducible assumption) | assumption)
                                            obtain ⟨ad320, A320_7, c320_7, e320, hx320_0, hx320_1, hx320_2, hx320_3, hx320_4, hx320_5, hx320_6, hx320_7, hl320_7, hi320_7⟩ := at_T60 HR0.out (rd (l1.take (x11_1 : Int).toNat) x33_3) p320 q320
                                            have hw320_7 := hx320_7
                                            have hw320_6 := hx320_6
                                            have hw320_5 := hx320_5
                                            have hw320_4 := hx320_4
                                            have hw320_3 := hx320_3
                                            have hw320_2 := hx320_2
                                            have hw320_1 := hx320_1
                                            have hw320_0 := hx320_0
                                            cases e320
                                            replace hx320_0 := (HB.out.cell (World.block_lt_of_cell? w _ hx320_0)).trans hx320_0
                                            replace hx320_1 := (HB.out.cell (World.block_lt_of_cell? w _ hx320_1)).trans hx320_1
                                            replace hx320_2 := (HB.out.cell (World.block_lt_of_cell? w _ hx320_2)).trans hx320_2
                                            replace hx320_3 := (HB.out.cell (World.block_lt_of_cell? w _ hx320_3)).trans hx320_3
                                            replace hx320_4 := (HB.out.cell (World.block_lt_of_cell? w _ hx320_4)).trans hx320_4
                                            replace hx320_5 := (HB.out.cell (World.block_lt_of_cell? w _ hx320_5)).trans hx320_5
                                            replace hx320_6 := (HB.out.cell (World.block_lt_of_cell? w _ hx320_6)).trans hx320_6
                                            replace hx320_7 := (HB.out.cell (World.block_lt_of_cell? w _ hx320_7)).trans hx320_7
                                            have HR320_7 := Aside0.mk hi320_7
                                            have HC320_7 := Aside0.mk hl320_7
                                            clear hi320_7 hl320_7
                                            replace p320 := eq_true p320
                                            replace q320 := eq_true q320
                                            have p321 : 0 ≤ ((rd l1 x11_1) : Int) := of_decide_eq_true (by first | (with_reducible assumption) | assumption)
                                            have q321 : (rd l1 x11_1) < (l0.length : Int) := of_decide_eq_true (by first | (with_reducible assumption) | assumption)
                                            obtain ⟨ad321, A321_7, c321_7, e321, hx321_0, hx321_1, hx321_2, hx321_3, hx321_4, hx321_5, hx321_6, hx321_7, hl321_7, hi321_7⟩ := at_T60 HR0.out (rd l1 x11_1) p321 q321
                                            have hw321_7 := hx321_7
                                            have hw321_6 := hx321_6
                                            have hw321_5 := hx321_5
                                            have hw321_4 := hx321_4
                                            have hw321_3 := hx321_3
                                            have hw321_2 := hx321_2
                                            have hw321_1 := hx321_1
                                            have hw321_0 := hx321_0
                                            obtain rfl : ad320 = ad321 := (by injection e321)
                                            replace hx321_0 := (HB.out.cell (World.block_lt_of_cell? w _ hx321_0)).trans hx321_0
                                            replace hx321_1 := (HB.out.cell (World.block_lt_of_cell? w _ hx321_1)).trans hx321_1
                                            replace hx321_2 := (HB.out.cell (World.block_lt_of_cell? w _ hx321_2)).trans hx321_2
                                            replace hx321_3 := (HB.out.cell (World.block_lt_of_cell? w _ hx321_3)).trans hx321_3
                                            replace hx321_4 := (HB.out.cell (World.block_lt_of_cell? w _ hx321_4)).trans hx321_4
                                            replace hx321_5 := (HB.out.cell (World.block_lt_of_cell? w _ hx321_5)).trans hx321_5
                                            replace hx321_6 := (HB.out.cell (World.block_lt_of_cell? w _ hx321_6)).trans hx321_6
                                            replace hx321_7 := (HB.out.cell (World.block_lt_of_cell? w _ hx321_7)).trans hx321_7
                                            have HR321_7 := Aside0.mk hi321_7
                                            have HC321_7 := Aside0.mk hl321_7
                                            clear hi321_7 hl321_7
                                            replace p321 := eq_true p321
                                            replace q321 := eq_true q321
                                            refine start_ (n := 15) (S := fun w' => w'.cell? (ad320.add (((rd (l1.take (x11_1 : Int).toNat) x33_3)).toNat * 8)) = some (.int .i64 ((rd_T60 l0 (rd (l1.take (x11_1 : Int).toNat) x33_3)).f0)) ∧ w'.cell? ⟨(ad320.add (((rd (l1.take (x11_1 : Int).toNat) x33_3)).toNat * 8)).block, (ad320.add (((rd (l1.take (x11_1 : Int).toNat) x33_3)).toNat * 8)).off + 1, none⟩ = some (.int .i64 ((rd_T60 l0 (rd (l1.take (x11_1 : Int).toNat) x33_3)).f1)) ∧ w'.cell? ⟨(ad320.add (((rd (l1.take (x11_1 : Int).toNat) x33_3)).toNat * 8)).block, (ad320.add (((rd (l1.take (x11_1 : Int).toNat) x33_3)).toNat * 8)).off + 2, none⟩ = some (.int .i64 ((rd_T60 l0 (rd (l1.take (x11_1 : Int).toNat) x33_3)).f2)) ∧ w'.cell? ⟨(ad320.add (((rd (l1.take (x11_1 : Int).toNat) x33_3)).toNat * 8)).block, (ad320.add (((rd (l1.take (x11_1 : Int).toNat) x33_3)).toNat * 8)).off + 3, none⟩ = some (.int .i64 ((rd_T60 l0 (rd (l1.take (x11_1 : Int).toNat) x33_3)).f3)) ∧ w'.cell? ⟨(ad320.add (((rd (l1.take (x11_1 : Int).toNat) x33_3)).toNat * 8)).block, (ad320.add (((rd (l1.take (x11_1 : Int).toNat) x33_3)).toNat * 8)).off + 4, none⟩ = some (.int .i64 ((rd_T60 l0 (rd (l1.take (x11_1 : Int).toNat) x33_3)).f4)) ∧ w'.cell? ⟨(ad320.add (((rd (l1.take (x11_1 : Int).toNat) x33_3)).toNat * 8)).block, (ad320.add (((rd (l1.take (x11_1 : Int).toNat) x33_3)).toNat * 8)).off + 5, none⟩ = some (.int .i64 ((rd_T60 l0 (rd (l1.take (x11_1 : Int).toNat) x33_3)).f5)) ∧ w'.cell? ⟨(ad320.add (((rd (l1.take (x11_1 : Int).toNat) x33_3)).toNat * 8)).block, (ad320.add (((rd (l1.take (x11_1 : Int).toNat) x33_3)).toNat * 8)).off + 6, none⟩ = some (.int .i64 ((rd_T60 l0 (rd (l1.take (x11_1 : Int).toNat) x33_3)).f6)) ∧ w'.cell? ⟨(ad320.add (((rd (l1.take (x11_1 : Int).toNat) x33_3)).toNat * 8)).block, (ad320.add (((rd (l1.take (x11_1 : Int).toNat) x33_3)).toNat * 8)).off + 7, none⟩ = some (.slice A320_7 ((rd_T60 l0 (rd (l1.take (x11_1 : Int).toNat) x33_3)).f7).length c320_7) ∧ w'.cell? (ad320.add (((rd l1 x11_1)).toNat * 8)) = some (.int .i64 ((rd_T60 l0 (rd l1 x11_1)).f0)) ∧ w'.cell? ⟨(ad320.add (((rd l1 x11_1)).toNat * 8)).block, (ad320.add (((rd l1 x11_1)).toNat * 8)).off + 1, none⟩ = some (.int .i64 ((rd_T60 l0 (rd l1 x11_1)).f1)) ∧ w'.cell? ⟨(ad320.add (((rd l1 x11_1)).toNat * 8)).block, (ad320.add (((rd l1 x11_1)).toNat * 8)).off + 2, none⟩ = some (.int .i64 ((rd_T60 l0 (rd l1 x11_1)).f2)) ∧ w'.cell? ⟨(ad320.add (((rd l1 x11_1)).toNat * 8)).block, (ad320.add (((rd l1 x11_1)).toNat * 8)).off + 3, none⟩ = some (.int .i64 ((rd_T60 l0 (rd l1 x11_1)).f3)) ∧ w'.cell? ⟨(ad320.add (((rd l1 x11_1)).toNat * 8)).block, (ad320.add (((rd l1 x11_1)).toNat * 8)).off + 4, none⟩ = some (.int .i64 ((rd_T60 l0 (rd l1 x11_1)).f4)) ∧ w'.cell? ⟨(ad320.add (((rd l1 x11_1)).toNat * 8)).block, (ad320.add (((rd l1 x11_1)).toNat * 8)).off + 5, none⟩ = some (.int .i64 ((rd_T60 l0 (rd l1 x11_1)).f5)) ∧ w'.cell? ⟨(ad320.add (((rd l1 x11_1)).toNat * 8)).block, (ad320.add (((rd l1 x11_1)).toNat * 8)).off + 6, none⟩ = some (.int .i64 ((rd_T60 l0 (rd l1 x11_1)).f6)) ∧ w'.cell? ⟨(ad320.add (((rd l1 x11_1)).toNat * 8)).block, (ad320.add (((rd l1 x11_1)).toNat * 8)).off + 7, none⟩ = some (.slice A321_7 ((rd_T60 l0 (rd l1 x11_1)).f7).length c321_7)) (ds := []) #[false, false, false, false, false, false, false, false, false, false, false, false, false, false, false] (by kernel_rfl) rfl rfl ⟨((HB.out.cell (World.block_lt_of_cell? w _ hw320_0)).trans hw320_0), ((HB.out.cell (World.block_lt_of_cell? w _ hw320_1)).trans hw320_1), ((HB.out.cell (World.block_lt_of_cell? w _ hw320_2)).trans hw320_2), ((HB.out.cell (World.block_lt_of_cell? w _ hw320_3)).trans hw320_3), ((HB.out.cell (World.block_lt_of_cell? w _ hw320_4)).trans hw320_4), ((HB.out.cell (World.block_lt_of_cell? w _ hw320_5)).trans hw320_5), ((HB.out.cell (World.block_lt_of_cell? w _ hw320_6)).trans hw320_6), ((HB.out.cell (World.block_lt_of_cell? w _ hw320_7)).trans hw320_7), ((HB.out.cell (World.block_lt_of_cell? w _ hw321_0)).trans hw321_0), ((HB.out.cell (World.block_lt_of_cell? w _ hw321_1)).trans hw321_1), ((HB.out.cell (World.block_lt_of_cell? w _ hw321_2)).trans hw321_2), ((HB.out.cell (World.block_lt_of_cell? w _ hw321_3)).trans hw321_3), ((HB.out.cell (World.block_lt_of_cell? w _ hw321_4)).trans hw321_4), ((HB.out.cell (World.block_lt_of_cell? w _ hw321_5)).trans hw321_5), ((HB.out.cell (World.block_lt_of_cell? w _ hw321_6)).trans hw321_6), ((HB.out.cell (World.block_lt_of_cell? w _ hw321_7)).trans hw321_7)⟩ (fun hHeld => ?_); refine with_tabW impl_IsLegalOrder.tab9 impl_IsLegalOrder.bits9 (fun HT_ HW_ => ?_)
                                            generalize wr.drew = w27 at HB HR320_7 HR321_7 hx320_0 hx320_1 hx320_2 hx320_3 hx320_4 hx320_5 hx320_6 hx320_7 hx321_0 hx321_1 hx321_2 hx321_3 hx321_4 hx321_5 hx321_6 hx321_7 hHeld ⊢
                                            refine pure_ (i := 0) (N := some 37) (v := ?_) (a' := ?_) #[true, false, false, false, false, false, false, false, false, false, false, false, false, false, false] rfl rfl (any_of HT_.out (by kernel_rfl)) (fun _ _ _ h => h) (Or.inl ⟨by rfl, ?_⟩) ?_ ?_
                                            rotate_left
                                            · intro w'
                                              go_simp
                                              with_reducible rfl
                                            rotate_left
                                            · simp only [Act.put, List.setIfInBounds_toArray, List.set_cons_zero, List.set_cons_succ, i64_w, i32_w]
                                              rfl
                                            refine pure_ (i := 1) (N := some 38) (v := ?_) (a' := ?_) #[true, true, false, false, false, false, false, false, false, false, false, false, false, false, false] rfl rfl (any_of HT_.out (by kernel_rfl)) (fun _ _ _ h => h) (Or.inl ⟨by rfl, ?_⟩) ?_ ?_
                                            rotate_left
                                            · intro w'
                                              go_simp
                                              with_reducible rfl
                                            rotate_left
                                            · simp only [Act.put, List.setIfInBounds_toArray, List.set_cons_zero, List.set_cons_succ, i64_w, i32_w]
                                              rfl
                                            refine pure_ (i := 2) (N := some 39) (v := ?_) (a' := ?_) #[true, true, true, false, false, false, false, false, false, false, false, false, false, false, false] rfl rfl (any_of HT_.out (by kernel_rfl)) (fun _ _ _ h => h) (Or.inl ⟨by rfl, ?_⟩) ?_ ?_
                                            rotate_left
                                            · intro w'
                                              go_simp
                                              with_reducible rfl
                                            rotate_left
                                            · simp only [Act.put, List.setIfInBounds_toArray, List.set_cons_zero, List.set_cons_succ, i64_w, i32_w]
                                              rfl
                                            refine pure_ (i := 3) (N := some 40) (v := ?_) (a' := ?_) #[true, true, true, true, false, false, false, false, false, false, false, false, false, false, false] rfl rfl (any_of HT_.out (by kernel_rfl)) (fun _ _ _ h => h) (Or.inl ⟨by rfl, ?_⟩) ?_ ?_
                                            rotate_left
                                            · intro w'
                                              go_simp
                                              with_reducible rfl
                                            rotate_left
                                            · simp only [Act.put, List.setIfInBounds_toArray, List.set_cons_zero, List.set_cons_succ, i64_w, i32_w]
                                              rfl
                                            refine pure_ (i := 4) (N := some 41) (v := ?_) (a' := ?_) #[true, true, true, true, true, false, false, false, false, false, false, false, false, false, false] rfl rfl (any_of HT_.out (by kernel_rfl)) (fun _ _ _ h => h) (Or.inl ⟨by rfl, ?_⟩) ?_ ?_
                                            rotate_left
                                            · intro w'
                                              go_simp
                                              with_reducible rfl
                                            rotate_left
                                            · simp only [Act.put, List.setIfInBounds_toArray, List.set_cons_zero, List.set_cons_succ, i64_w, i32_w]
                                              rfl
                                            refine pure_ (i := 5) (N := some 42) (v := ?_) (a' := ?_) #[true, true, true, true, true, true, false, false, false, false, false, false, false, false, false] rfl rfl (any_of HT_.out (by kernel_rfl)) (fun _ _ _ h => h) (Or.inl ⟨by rfl, ?_⟩) ?_ ?_
                                            rotate_left
                                            · intro w'
                                              go_simp
                                              with_reducible rfl
                                            rotate_left
                                            · simp only [Act.put, List.setIfInBounds_toArray, List.set_cons_zero, List.set_cons_succ, i64_w, i32_w]
                                              rfl
                                            refine pure_ (i := 6) (N := some 43) (v := ?_) (a' := ?_) #[true, true, true, true, true, true, true, false, false, false, false, false, false, false, false] rfl rfl (any_of HT_.out (by kernel_rfl)) (fun _ _ _ h => h) (Or.inl ⟨by rfl, ?_⟩) ?_ ?_
                                            rotate_left
                                            · intro w'
                                              go_simp
                                              with_reducible rfl
                                            rotate_left
                                            · simp only [Act.put, List.setIfInBounds_toArray, List.set_cons_zero, List.set_cons_succ, i64_w, i32_w]
                                              rfl
                                            refine pure_ (i := 8) (N := some 45) (v := ?_) (a' := ?_) #[true, true, true, true, true, true, true, false, true, false, false, false, false, false, false] rfl rfl (any_of HT_.out (by kernel_rfl)) (fun _ _ _ h => h) (Or.inl ⟨by rfl, ?_⟩) ?_ ?_
                                            rotate_left
                                            · intro w'
                                              go_simp
                                              with_reducible rfl
                                            rotate_left
                                            · simp only [Act.put, List.setIfInBounds_toArray, List.set_cons_zero, List.set_cons_succ, i64_w, i32_w]
                                              rfl
                                            refine pure_ (i := 9) (N := some 46) (v := ?_) (a' := ?_) #[true, true, true, true, true, true, true, false, true, true, false, false, false, false, false] rfl rfl (any_of HT_.out (by kernel_rfl)) (fun _ _ _ h => h) (Or.inl ⟨by rfl, ?_⟩) ?_ ?_
                                            rotate_left
                                            · intro w'
                                              go_simp
                                              with_reducible rfl
                                            rotate_left
                                            · simp only [Act.put, List.setIfInBounds_toArray, List.set_cons_zero, List.set_cons_succ, i64_w, i32_w]
                                              rfl
                                            refine pure_ (i := 10) (N := some 47) (v := ?_) (a' := ?_) #[true, true, true, true, true, true, true, false, true, true, true, false, false, false, false] rfl rfl (any_of HT_.out (by kernel_rfl)) (fun _ _ _ h => h) (Or.inl ⟨by rfl, ?_⟩) ?_ ?_
                                            rotate_left
                                            · intro w'
                                              go_simp
                                              with_reducible rfl
                                            rotate_left
                                            · simp only [Act.put, List.setIfInBounds_toArray, List.set_cons_zero, List.set_cons_succ, i64_w, i32_w]
                                              rfl
                                            refine take_ (i := 7) (N := some 44) (v := ?_) (a' := ?_) #[true, true, true, true, true, true, true, true, true, true, true, false, false, false, false] rfl rfl (take_ofW HT_.out HW_.out (by kernel_rfl)) (fun _ _ _ h => h) (Or.inl ⟨by rfl, ?_⟩) hHeld ?_ ?_
                                            rotate_left
                                            · rintro w' ⟨s0, s1, s2, s3, s4, s5, s6, s7, s8, s9, s10, s11, s12, s13, s14, s15⟩
                                              go_simp
                                              with_reducible rfl
                                            rotate_left
                                            · simp only [Act.put, List.setIfInBounds_toArray, List.set_cons_zero, List.set_cons_succ, i64_w, i32_w]
                                              rfl
                                            refine take_ (i := 11) (N := some 48) (v := ?_) (a' := ?_) #[true, true, true, true, true, true, true, true, true, true, true, true, false, false, false] rfl rfl (take_ofW HT_.out HW_.out (by kernel_rfl)) (fun _ _ _ h => h) (Or.inl ⟨by rfl, ?_⟩) hHeld ?_ ?_
                                            rotate_left
                                            · rintro w' ⟨s0, s1, s2, s3, s4, s5, s6, s7, s8, s9, s10, s11, s12, s13, s14, s15⟩
                                              go_simp
                                              with_reducible rfl
                                            rotate_left
                                            · simp only [Act.put, List.setIfInBounds_toArray, List.set_cons_zero, List.set_cons_succ, i64_w, i32_w]
                                              rfl
                                            refine one_ (i := 12) (N := some 49) #[true, true, true, true, true, true, true, true, true, true, true, true, true, false, false] rfl rfl (one_of HT_.out (by kernel_rfl)) (by decide) (fun K hK => ?_)
                                            refine goes_ Try.func57 (by kernel_rfl) rfl #[.agg #[.int .i64 ((rd_T60 l0 (rd (l1.take (x11_1 : Int).toNat) x33_3)).f0), .int .i64 ((rd_T60 l0 (rd (l1.take (x11_1 : Int).toNat) x33_3)).f1), .int .i64 ((rd_T60 l0 (rd (l1.take (x11_1 : Int).toNat) x33_3)).f2), .int .i64 ((rd_T60 l0 (rd (l1.take (x11_1 : Int).toNat) x33_3)).f3), .int .i64 ((rd_T60 l0 (rd (l1.take (x11_1 : Int).toNat) x33_3)).f4), .int .i64 ((rd_T60 l0 (rd (l1.take (x11_1 : Int).toNat) x33_3)).f5), .int .i64 ((rd_T60 l0 (rd (l1.take (x11_1 : Int).toNat) x33_3)).f6), .slice A320_7 ((rd_T60 l0 (rd (l1.take (x11_1 : Int).toNat) x33_3)).f7).length c320_7], .agg #[.int .i64 ((rd_T60 l0 (rd l1 x11_1)).f0), .int .i64 ((rd_T60 l0 (rd l1 x11_1)).f1), .int .i64 ((rd_T60 l0 (rd l1 x11_1)).f2), .int .i64 ((rd_T60 l0 (rd l1 x11_1)).f3), .int .i64 ((rd_T60 l0 (rd l1 x11_1)).f4), .int .i64 ((rd_T60 l0 (rd l1 x11_1)).f5), .int .i64 ((rd_T60 l0 (rd l1 x11_1)).f6), .slice A321_7 ((rd_T60 l0 (rd l1 x11_1)).f7).length c321_7]] (by rfl) rfl rfl (by (try simp only [List.map_toArray, List.map_cons, List.map_nil]); first | done | rfl | (simp only [List.length_drop, List.length_take]; rfl)) ?_
                                            with_reducible refine (impl_MayPass.calls k3 ((rd_T60 l0 (rd (l1.take (x11_1 : Int).toNat) x33_3)).f0) ((rd_T60 l0 (rd (l1.take (x11_1 : Int).toNat) x33_3)).f1) ((rd_T60 l0 (rd (l1.take (x11_1 : Int).toNat) x33_3)).f2) ((rd_T60 l0 (rd (l1.take (x11_1 : Int).toNat) x33_3)).f3) ((rd_T60 l0 (rd (l1.take (x11_1 : Int).toNat) x33_3)).f4) ((rd_T60 l0 (rd (l1.take (x11_1 : Int).toNat) x33_3)).f5) ((rd_T60 l0 (rd (l1.take (x11_1 : Int).toNat) x33_3)).f6) _ _ ((rd_T60 l0 (rd (l1.take (x11_1 : Int).toNat) x33_3)).f7) ((rd_T60 l0 (rd l1 x11_1)).f0) ((rd_T60 l0 (rd l1 x11_1)).f1) ((rd_T60 l0 (rd l1 x11_1)).f2) ((rd_T60 l0 (rd l1 x11_1)).f3) ((rd_T60 l0 (rd l1 x11_1)).f4) ((rd_T60 l0 (rd l1 x11_1)).f5) ((rd_T60 l0 (rd l1 x11_1)).f6) _ _ ((rd_T60 l0 (rd l1 x11_1)).f7) true _ ?side1 ?side2 ?side3 ?side4 A25.out).mono ?_
                                            (case side1 => repeat (first | exact (Kd.C_below HR320_7.out HB.out) | (with_reducible refine Kd.C_alloc ?_ _) | (with_reducible refine Kd.C_drewN ?_ _) | (with_reducible refine Kd.C_drew ?_)))
                                            (case side2 => exact HC320_7.out)
                                            (case side3 => repeat (first | exact (Kd.C_below HR321_7.out HB.out) | (with_reducible refine Kd.C_alloc ?_ _) | (with_reducible refine Kd.C_drewN ?_ _) | (with_reducible refine Kd.C_drew ?_)))
                                            (case side4 => exact HC321_7.out)
                                            rintro e w28 ⟨rfl, hb⟩
                                            refine ⟨_, rfl, ?_⟩
                                            have n0_ := Aside0.mk (below_step (by repeat (first | (with_reducible first | exact HB.out | apply below_alloc | apply pw_below_drewN | apply below_drew1) | exact HB.out)) hb)
                                            clear HB
                                            have HB := n0_
                                            clear n0_
                                            (try clear hb)
                                            (try clear hb2)
                                            (try clear hk)
                                            (try clear hi)
                                            refine hK.out _ _ ⟨((HB.out.cell (World.block_lt_of_cell? w _ hw320_0)).trans hw320_0), ((HB.out.cell (World.block_lt_of_cell? w _ hw320_1)).trans hw320_1), ((HB.out.cell (World.block_lt_of_cell? w _ hw320_2)).trans hw320_2), ((HB.out.cell (World.block_lt_of_cell? w _ hw320_3)).trans hw320_3), ((HB.out.cell (World.block_lt_of_cell? w _ hw320_4)).trans hw320_4), ((HB.out.cell (World.block_lt_of_cell? w _ hw320_5)).trans hw320_5), ((HB.out.cell (World.block_lt_of_cell? w _ hw320_6)).trans hw320_6), ((HB.out.cell (World.block_lt_of_cell? w _ hw320_7)).trans hw320_7), ((HB.out.cell (World.block_lt_of_cell? w _ hw321_0)).trans hw321_0), ((HB.out.cell (World.block_lt_of_cell? w _ hw321_1)).trans hw321_1), ((HB.out.cell (World.block_lt_of_cell? w _ hw321_2)).trans hw321_2), ((HB.out.cell (World.block_lt_of_cell? w _ hw321_3)).trans hw321_3), ((HB.out.cell (World.block_lt_of_cell? w _ hw321_4)).trans hw321_4), ((HB.out.cell (World.block_lt_of_cell? w _ hw321_5)).trans hw321_5), ((HB.out.cell (World.block_lt_of_cell? w _ hw321_6)).trans hw321_6), ((HB.out.cell (World.block_lt_of_cell? w _ hw321_7)).trans hw321_7)⟩ (fun hHeld => ?_)
                                            clear hK K
                                            refine norm_ (a' := ?_) ?_ ?_
                                            rotate_left
                                            · show Act.put _ (some 49) _ = _
                                              simp only [Act.put, List.setIfInBounds_toArray, List.set_cons_zero, List.set_cons_succ, i64_w, i32_w]
                                              rfl
                                            refine pure_ (i := 13) (N := some 50) (v := ?_) (a' := ?_) #[true, true, true, true, true, true, true, true, true, true, true, true, true, true, false] rfl rfl (any_of HT_.out (by kernel_rfl)) (fun _ _ _ h => h) (Or.inl ⟨by rfl, ?_⟩) ?_ ?_
                                            rotate_left
                                            · intro w'
                                              go_simp
                                              with_reducible rfl
                                            rotate_left
                                            · simp only [Act.put, List.setIfInBounds_toArray, List.set_cons_zero, List.set_cons_succ, i64_w, i32_w]
                                              rfl
                                            refine pure_ (i := 14) (N := some 51) (v := ?_) (a' := ?_) #[true, true, true, true, true, true, true, true, true, true, true, true, true, true, true] rfl rfl (any_of HT_.out (by kernel_rfl)) (fun _ _ _ h => h) (Or.inl ⟨by rfl, ?_⟩) ?_ ?_
                                            rotate_left
                                            · intro w'
                                              go_simp
                                              with_reducible rfl
                                            rotate_left
                                            · simp only [Act.put, List.setIfInBounds_toArray, List.set_cons_zero, List.set_cons_succ, i64_w, i32_w]
                                              rfl
                                            refine done_ (done_of HT_.out (by kernel_rfl)) ?_
                                            try go_wp2
                                            go_roundg k3
                                            case measure => have := HK1.out; have := HJ5.out; have := HK3.out; omega
                                            case rel => exact ⟨(wrap64 (x33_3 + 1)), (by first | rfl | (simp; done) | (simp [*]; done)), H', ⟨by have := HK1.out; have := HJ5.out; have := HK3.out; omega⟩, ⟨by repeat (first | (with_reducible first | exact HB.out | apply below_alloc | apply pw_below_drewN | apply below_drew1) | exact HB.out)⟩⟩
                                          · replace c26 := Bool.eq_false_iff.mpr c26
                                            subst c26
                                            have H1 : (some false) = some r := by rw [if_neg (show ¬ (false = true) by decide)] at H; exact H
                                            clear H
                                            have H := H1
                                            clear H1
                                            obtain rfl := Option.some.inj H
                                            have p319 : 0 ≤ (x33_3 : Int) := of_decide_eq_true (by first | (with_reducible assumption) | assumption)
                                            have q319 : x33_3 < ((l1.take (x11_1 : Int).toNat).length : Int) := of_decide_eq_true (by first | (with_reducible assumption) | assumption)
                                            have q319m := eq_true (show x33_3 < max x11_1 0 from by rw [← HLM16.out]; exact q319)
                                            obtain ⟨ad319, e319, hx319_0⟩ := Kd.at_int HR318.out x33_3 p319 q319
                                            obtain rfl : ad314 = ad319 := (by injection e319)
                                            replace hx319_0 := (HB.out.cell (World.block_lt_of_cell? w _ hx319_0)).trans hx319_0
                                            replace p319 := eq_true p319
                                            replace q319 := eq_true q319
                                            try go_wp2
                                            have n0_ := Aside0.mk (below_drew1 HB.out)
                                            clear HB
                                            have HB := n0_
                                            clear n0_
                                            have p320 : 0 ≤ ((rd (l1.take (x11_1 : Int).toNat) x33_3) : Int) := of_decide_eq_true (by first | (with_reducible assumption) | assumption)
                                            have q320 : (rd (l1.take (x11_1 : Int).toNat) x33_3) < (l0.length : Int) := of_decide_eq_true (by first | (with_reducible assumption) | assumption)
                                            obtain ⟨ad320, A320_7, c320_7, e320, hx320_0, hx320_1, hx320_2, hx320_3, hx320_4, hx320_5, hx320_6, hx320_7, hl320_7, hi320_7⟩ := at_T60 HR0.out (rd (l1.take (x11_1 : Int).toNat) x33_3) p320 q320
                                            have hw320_7 := hx320_7
                                            have hw320_6 := hx320_6
                                            have hw320_5 := hx320_5
                                            have hw320_4 := hx320_4
                                            have hw320_3 := hx320_3
                                            have hw320_2 := hx320_2
                                            have hw320_1 := hx320_1
                                            have hw320_0 := hx320_0
                                            cases e320
                                            replace hx320_0 := (HB.out.cell (World.block_lt_of_cell? w _ hx320_0)).trans hx320_0
                                            replace hx320_1 := (HB.out.cell (World.block_lt_of_cell? w _ hx320_1)).trans hx320_1
                                            replace hx320_2 := (HB.out.cell (World.block_lt_of_cell? w _ hx320_2)).trans hx320_2
                                            replace hx320_3 := (HB.out.cell (World.block_lt_of_cell? w _ hx320_3)).trans hx320_3
                                            replace hx320_4 := (HB.out.cell (World.block_lt_of_cell? w _ hx320_4)).trans hx320_4
                                            replace hx320_5 := (HB.out.cell (World.block_lt_of_cell? w _ hx320_5)).trans hx320_5
                                            replace hx320_6 := (HB.out.cell (World.block_lt_of_cell? w _ hx320_6)).trans hx320_6
                                            replace hx320_7 := (HB.out.cell (World.block_lt_of_cell? w _ hx320_7)).trans hx320_7
                                            have HR320_7 := Aside0.mk hi320_7
                                            have HC320_7 := Aside0.mk hl320_7
                                            clear hi320_7 hl320_7
                                            replace p320 := eq_true p320
                                            replace q320 := eq_true q320
                                            have p321 : 0 ≤ ((rd l1 x11_1) : Int) := of_decide_eq_true (by first | (with_reducible assumption) | assumption)
                                            have q321 : (rd l1 x11_1) < (l0.length : Int) := of_decide_eq_true (by first | (with_reducible assumption) | assumption)
                                            obtain ⟨ad321, A321_7, c321_7, e321, hx321_0, hx321_1, hx321_2, hx321_3, hx321_4, hx321_5, hx321_6, hx321_7, hl321_7, hi321_7⟩ := at_T60 HR0.out (rd l1 x11_1) p321 q321
                                            have hw321_7 := hx321_7
                                            have hw321_6 := hx321_6
                                            have hw321_5 := hx321_5
                                            have hw321_4 := hx321_4
                                            have hw321_3 := hx321_3
                                            have hw321_2 := hx321_2
                                            have hw321_1 := hx321_1
                                            have hw321_0 := hx321_0
                                            obtain rfl : ad320 = ad321 := (by injection e321)
                                            replace hx321_0 := (HB.out.cell (World.block_lt_of_cell? w _ hx321_0)).trans hx321_0
                                            replace hx321_1 := (HB.out.cell (World.block_lt_of_cell? w _ hx321_1)).trans hx321_1
                                            replace hx321_2 := (HB.out.cell (World.block_lt_of_cell? w _ hx321_2)).trans hx321_2
                                            replace hx321_3 := (HB.out.cell (World.block_lt_of_cell? w _ hx321_3)).trans hx321_3
                                            replace hx321_4 := (HB.out.cell (World.block_lt_of_cell? w _ hx321_4)).trans hx321_4
                                            replace hx321_5 := (HB.out.cell (World.block_lt_of_cell? w _ hx321_5)).trans hx321_5
                                            replace hx321_6 := (HB.out.cell (World.block_lt_of_cell? w _ hx321_6)).trans hx321_6
                                            replace hx321_7 := (HB.out.cell (World.block_lt_of_cell? w _ hx321_7)).trans hx321_7
                                            have HR321_7 := Aside0.mk hi321_7
                                            have HC321_7 := Aside0.mk hl321_7
                                            clear hi321_7 hl321_7
                                            replace p321 := eq_true p321
                                            replace q321 := eq_true q321
                                            refine start_ (n := 15) (S := fun w' => w'.cell? (ad320.add (((rd (l1.take (x11_1 : Int).toNat) x33_3)).toNat * 8)) = some (.int .i64 ((rd_T60 l0 (rd (l1.take (x11_1 : Int).toNat) x33_3)).f0)) ∧ w'.cell? ⟨(ad320.add (((rd (l1.take (x11_1 : Int).toNat) x33_3)).toNat * 8)).block, (ad320.add (((rd (l1.take (x11_1 : Int).toNat) x33_3)).toNat * 8)).off + 1, none⟩ = some (.int .i64 ((rd_T60 l0 (rd (l1.take (x11_1 : Int).toNat) x33_3)).f1)) ∧ w'.cell? ⟨(ad320.add (((rd (l1.take (x11_1 : Int).toNat) x33_3)).toNat * 8)).block, (ad320.add (((rd (l1.take (x11_1 : Int).toNat) x33_3)).toNat * 8)).off + 2, none⟩ = some (.int .i64 ((rd_T60 l0 (rd (l1.take (x11_1 : Int).toNat) x33_3)).f2)) ∧ w'.cell? ⟨(ad320.add (((rd (l1.take (x11_1 : Int).toNat) x33_3)).toNat * 8)).block, (ad320.add (((rd (l1.take (x11_1 : Int).toNat) x33_3)).toNat * 8)).off + 3, none⟩ = some (.int .i64 ((rd_T60 l0 (rd (l1.take (x11_1 : Int).toNat) x33_3)).f3)) ∧ w'.cell? ⟨(ad320.add (((rd (l1.take (x11_1 : Int).toNat) x33_3)).toNat * 8)).block, (ad320.add (((rd (l1.take (x11_1 : Int).toNat) x33_3)).toNat * 8)).off + 4, none⟩ = some (.int .i64 ((rd_T60 l0 (rd (l1.take (x11_1 : Int).toNat) x33_3)).f4)) ∧ w'.cell? ⟨(ad320.add (((rd (l1.take (x11_1 : Int).toNat) x33_3)).toNat * 8)).block, (ad320.add (((rd (l1.take (x11_1 : Int).toNat) x33_3)).toNat * 8)).off + 5, none⟩ = some (.int .i64 ((rd_T60 l0 (rd (l1.take (x11_1 : Int).toNat) x33_3)).f5)) ∧ w'.cell? ⟨(ad320.add (((rd (l1.take (x11_1 : Int).toNat) x33_3)).toNat * 8)).block, (ad320.add (((rd (l1.take (x11_1 : Int).toNat) x33_3)).toNat * 8)).off + 6, none⟩ = some (.int .i64 ((rd_T60 l0 (rd (l1.take (x11_1 : Int).toNat) x33_3)).f6)) ∧ w'.cell? ⟨(ad320.add (((rd (l1.take (x11_1 : Int).toNat) x33_3)).toNat * 8)).block, (ad320.add (((rd (l1.take (x11_1 : Int).toNat) x33_3)).toNat * 8)).off + 7, none⟩ = some (.slice A320_7 ((rd_T60 l0 (rd (l1.take (x11_1 : Int).toNat) x33_3)).f7).length c320_7) ∧ w'.cell? (ad320.add (((rd l1 x11_1)).toNat * 8)) = some (.int .i64 ((rd_T60 l0 (rd l1 x11_1)).f0)) ∧ w'.cell? ⟨(ad320.add (((rd l1 x11_1)).toNat * 8)).block, (ad320.add (((rd l1 x11_1)).toNat * 8)).off + 1, none⟩ = some (.int .i64 ((rd_T60 l0 (rd l1 x11_1)).f1)) ∧ w'.cell? ⟨(ad320.add (((rd l1 x11_1)).toNat * 8)).block, (ad320.add (((rd l1 x11_1)).toNat * 8)).off + 2, none⟩ = some (.int .i64 ((rd_T60 l0 (rd l1 x11_1)).f2)) ∧ w'.cell? ⟨(ad320.add (((rd l1 x11_1)).toNat * 8)).block, (ad320.add (((rd l1 x11_1)).toNat * 8)).off + 3, none⟩ = some (.int .i64 ((rd_T60 l0 (rd l1 x11_1)).f3)) ∧ w'.cell? ⟨(ad320.add (((rd l1 x11_1)).toNat * 8)).block, (ad320.add (((rd l1 x11_1)).toNat * 8)).off + 4, none⟩ = some (.int .i64 ((rd_T60 l0 (rd l1 x11_1)).f4)) ∧ w'.cell? ⟨(ad320.add (((rd l1 x11_1)).toNat * 8)).block, (ad320.add (((rd l1 x11_1)).toNat * 8)).off + 5, none⟩ = some (.int .i64 ((rd_T60 l0 (rd l1 x11_1)).f5)) ∧ w'.cell? ⟨(ad320.add (((rd l1 x11_1)).toNat * 8)).block, (ad320.add (((rd l1 x11_1)).toNat * 8)).off + 6, none⟩ = some (.int .i64 ((rd_T60 l0 (rd l1 x11_1)).f6)) ∧ w'.cell? ⟨(ad320.add (((rd l1 x11_1)).toNat * 8)).block, (ad320.add (((rd l1 x11_1)).toNat * 8)).off + 7, none⟩ = some (.slice A321_7 ((rd_T60 l0 (rd l1 x11_1)).f7).length c321_7)) (ds := []) #[false, false, false, false, false, false, false, false, false, false, false, false, false, false, false] (by kernel_rfl) rfl rfl ⟨((HB.out.cell (World.block_lt_of_cell? w _ hw320_0)).trans hw320_0), ((HB.out.cell (World.block_lt_of_cell? w _ hw320_1)).trans hw320_1), ((HB.out.cell (World.block_lt_of_cell? w _ hw320_2)).trans hw320_2), ((HB.out.cell (World.block_lt_of_cell? w _ hw320_3)).trans hw320_3), ((HB.out.cell (World.block_lt_of_cell? w _ hw320_4)).trans hw320_4), ((HB.out.cell (World.block_lt_of_cell? w _ hw320_5)).trans hw320_5), ((HB.out.cell (World.block_lt_of_cell? w _ hw320_6)).trans hw320_6), ((HB.out.cell (World.block_lt_of_cell? w _ hw320_7)).trans hw320_7), ((HB.out.cell (World.block_lt_of_cell? w _ hw321_0)).trans hw321_0), ((HB.out.cell (World.block_lt_of_cell? w _ hw321_1)).trans hw321_1), ((HB.out.cell (World.block_lt_of_cell? w _ hw321_2)).trans hw321_2), ((HB.out.cell (World.block_lt_of_cell? w _ hw321_3)).trans hw321_3), ((HB.out.cell (World.block_lt_of_cell? w _ hw321_4)).trans hw321_4), ((HB.out.cell (World.block_lt_of_cell? w _ hw321_5)).trans hw321_5), ((HB.out.cell (World.block_lt_of_cell? w _ hw321_6)).trans hw321_6), ((HB.out.cell (World.block_lt_of_cell? w _ hw321_7)).trans hw321_7)⟩ (fun hHeld => ?_); refine with_tabW impl_IsLegalOrder.tab9 impl_IsLegalOrder.bits9 (fun HT_ HW_ => ?_)
                                            generalize wr.drew = w29 at HB HR320_7 HR321_7 hx320_0 hx320_1 hx320_2 hx320_3 hx320_4 hx320_5 hx320_6 hx320_7 hx321_0 hx321_1 hx321_2 hx321_3 hx321_4 hx321_5 hx321_6 hx321_7 hHeld ⊢
                                            refine pure_ (i := 0) (N := some 37) (v := ?_) (a' := ?_) #[true, false, false, false, false, false, false, false, false, false, false, false, false, false, false] rfl rfl (any_of HT_.out (by kernel_rfl)) (fun _ _ _ h => h) (Or.inl ⟨by rfl, ?_⟩) ?_ ?_
                                            rotate_left
                                            · intro w'
                                              go_simp
                                              with_reducible rfl
                                            rotate_left
                                            · simp only [Act.put, List.setIfInBounds_toArray, List.set_cons_zero, List.set_cons_succ, i64_w, i32_w]
                                              rfl
                                            refine pure_ (i := 1) (N := some 38) (v := ?_) (a' := ?_) #[true, true, false, false, false, false, false, false, false, false, false, false, false, false, false] rfl rfl (any_of HT_.out (by kernel_rfl)) (fun _ _ _ h => h) (Or.inl ⟨by rfl, ?_⟩) ?_ ?_
                                            rotate_left
                                            · intro w'
                                              go_simp
                                              with_reducible rfl
                                            rotate_left
                                            · simp only [Act.put, List.setIfInBounds_toArray, List.set_cons_zero, List.set_cons_succ, i64_w, i32_w]
                                              rfl
                                            refine pure_ (i := 2) (N := some 39) (v := ?_) (a' := ?_) #[true, true, true, false, false, false, false, false, false, false, false, false, false, false, false] rfl rfl (any_of HT_.out (by kernel_rfl)) (fun _ _ _ h => h) (Or.inl ⟨by rfl, ?_⟩) ?_ ?_
                                            rotate_left
                                            · intro w'
                                              go_simp
                                              with_reducible rfl
                                            rotate_left
                                            · simp only [Act.put, List.setIfInBounds_toArray, List.set_cons_zero, List.set_cons_succ, i64_w, i32_w]
                                              rfl
                                            refine pure_ (i := 3) (N := some 40) (v := ?_) (a' := ?_) #[true, true, true, true, false, false, false, false, false, false, false, false, false, false, false] rfl rfl (any_of HT_.out (by kernel_rfl)) (fun _ _ _ h => h) (Or.inl ⟨by rfl, ?_⟩) ?_ ?_
                                            rotate_left
                                            · intro w'
                                              go_simp
                                              with_reducible rfl
                                            rotate_left
                                            · simp only [Act.put, List.setIfInBounds_toArray, List.set_cons_zero, List.set_cons_succ, i64_w, i32_w]
                                              rfl
                                            refine pure_ (i := 4) (N := some 41) (v := ?_) (a' := ?_) #[true, true, true, true, true, false, false, false, false, false, false, false, false, false, false] rfl rfl (any_of HT_.out (by kernel_rfl)) (fun _ _ _ h => h) (Or.inl ⟨by rfl, ?_⟩) ?_ ?_
                                            rotate_left
                                            · intro w'
                                              go_simp
                                              with_reducible rfl
                                            rotate_left
                                            · simp only [Act.put, List.setIfInBounds_toArray, List.set_cons_zero, List.set_cons_succ, i64_w, i32_w]
                                              rfl
                                            refine pure_ (i := 5) (N := some 42) (v := ?_) (a' := ?_) #[true, true, true, true, true, true, false, false, false, false, false, false, false, false, false] rfl rfl (any_of HT_.out (by kernel_rfl)) (fun _ _ _ h => h) (Or.inl ⟨by rfl, ?_⟩) ?_ ?_
                                            rotate_left
                                            · intro w'
                                              go_simp
                                              with_reducible rfl
                                            rotate_left
                                            · simp only [Act.put, List.setIfInBounds_toArray, List.set_cons_zero, List.set_cons_succ, i64_w, i32_w]
                                              rfl
                                            refine pure_ (i := 6) (N := some 43) (v := ?_) (a' := ?_) #[true, true, true, true, true, true, true, false, false, false, false, false, false, false, false] rfl rfl (any_of HT_.out (by kernel_rfl)) (fun _ _ _ h => h) (Or.inl ⟨by rfl, ?_⟩) ?_ ?_
                                            rotate_left
                                            · intro w'
                                              go_simp
                                              with_reducible rfl
                                            rotate_left
                                            · simp only [Act.put, List.setIfInBounds_toArray, List.set_cons_zero, List.set_cons_succ, i64_w, i32_w]
                                              rfl
                                            refine pure_ (i := 8) (N := some 45) (v := ?_) (a' := ?_) #[true, true, true, true, true, true, true, false, true, false, false, false, false, false, false] rfl rfl (any_of HT_.out (by kernel_rfl)) (fun _ _ _ h => h) (Or.inl ⟨by rfl, ?_⟩) ?_ ?_
                                            rotate_left
                                            · intro w'
                                              go_simp
                                              with_reducible rfl
                                            rotate_left
                                            · simp only [Act.put, List.setIfInBounds_toArray, List.set_cons_zero, List.set_cons_succ, i64_w, i32_w]
                                              rfl
                                            refine pure_ (i := 9) (N := some 46) (v := ?_) (a' := ?_) #[true, true, true, true, true, true, true, false, true, true, false, false, false, false, false] rfl rfl (any_of HT_.out (by kernel_rfl)) (fun _ _ _ h => h) (Or.inl ⟨by rfl, ?_⟩) ?_ ?_
                                            rotate_left
                                            · intro w'
                                              go_simp
                                              with_reducible rfl
                                            rotate_left
                                            · simp only [Act.put, List.setIfInBounds_toArray, List.set_cons_zero, List.set_cons_succ, i64_w, i32_w]
                                              rfl
                                            refine pure_ (i := 10) (N := some 47) (v := ?_) (a' := ?_) #[true, true, true, true, true, true, true, false, true, true, true, false, false, false, false] rfl rfl (any_of HT_.out (by kernel_rfl)) (fun _ _ _ h => h) (Or.inl ⟨by rfl, ?_⟩) ?_ ?_
                                            rotate_left
                                            · intro w'
                                              go_simp
                                              with_reducible rfl
                                            rotate_left
                                            · simp only [Act.put, List.setIfInBounds_toArray, List.set_cons_zero, List.set_cons_succ, i64_w, i32_w]
                                              rfl
                                            refine take_ (i := 7) (N := some 44) (v := ?_) (a' := ?_) #[true, true, true, true, true, true, true, true, true, true, true, false, false, false, false] rfl rfl (take_ofW HT_.out HW_.out (by kernel_rfl)) (fun _ _ _ h => h) (Or.inl ⟨by rfl, ?_⟩) hHeld ?_ ?_
                                            rotate_left
                                            · rintro w' ⟨s0, s1, s2, s3, s4, s5, s6, s7, s8, s9, s10, s11, s12, s13, s14, s15⟩
                                              go_simp
                                              with_reducible rfl
                                            rotate_left
                                            · simp only [Act.put, List.setIfInBounds_toArray, List.set_cons_zero, List.set_cons_succ, i64_w, i32_w]
                                              rfl
                                            refine take_ (i := 11) (N := some 48) (v := ?_) (a' := ?_) #[true, true, true, true, true, true, true, true, true, true, true, true, false, false, false] rfl rfl (take_ofW HT_.out HW_.out (by kernel_rfl)) (fun _ _ _ h => h) (Or.inl ⟨by rfl, ?_⟩) hHeld ?_ ?_
                                            rotate_left
                                            · rintro w' ⟨s0, s1, s2, s3, s4, s5, s6, s7, s8, s9, s10, s11, s12, s13, s14, s15⟩
                                              go_simp
                                              with_reducible rfl
                                            rotate_left
                                            · simp only [Act.put, List.setIfInBounds_toArray, List.set_cons_zero, List.set_cons_succ, i64_w, i32_w]
                                              rfl
                                            refine one_ (i := 12) (N := some 49) #[true, true, true, true, true, true, true, true, true, true, true, true, true, false, false] rfl rfl (one_of HT_.out (by kernel_rfl)) (by decide) (fun K hK => ?_)
                                            refine goes_ Try.func57 (by kernel_rfl) rfl #[.agg #[.int .i64 ((rd_T60 l0 (rd (l1.take (x11_1 : Int).toNat) x33_3)).f0), .int .i64 ((rd_T60 l0 (rd (l1.take (x11_1 : Int).toNat) x33_3)).f1), .int .i64 ((rd_T60 l0 (rd (l1.take (x11_1 : Int).toNat) x33_3)).f2), .int .i64 ((rd_T60 l0 (rd (l1.take (x11_1 : Int).toNat) x33_3)).f3), .int .i64 ((rd_T60 l0 (rd (l1.take (x11_1 : Int).toNat) x33_3)).f4), .int .i64 ((rd_T60 l0 (rd (l1.take (x11_1 : Int).toNat) x33_3)).f5), .int .i64 ((rd_T60 l0 (rd (l1.take (x11_1 : Int).toNat) x33_3)).f6), .slice A320_7 ((rd_T60 l0 (rd (l1.take (x11_1 : Int).toNat) x33_3)).f7).length c320_7], .agg #[.int .i64 ((rd_T60 l0 (rd l1 x11_1)).f0), .int .i64 ((rd_T60 l0 (rd l1 x11_1)).f1), .int .i64 ((rd_T60 l0 (rd l1 x11_1)).f2), .int .i64 ((rd_T60 l0 (rd l1 x11_1)).f3), .int .i64 ((rd_T60 l0 (rd l1 x11_1)).f4), .int .i64 ((rd_T60 l0 (rd l1 x11_1)).f5), .int .i64 ((rd_T60 l0 (rd l1 x11_1)).f6), .slice A321_7 ((rd_T60 l0 (rd l1 x11_1)).f7).length c321_7]] (by rfl) rfl rfl (by (try simp only [List.map_toArray, List.map_cons, List.map_nil]); first | done | rfl | (simp only [List.length_drop, List.length_take]; rfl)) ?_
                                            with_reducible refine (impl_MayPass.calls k3 ((rd_T60 l0 (rd (l1.take (x11_1 : Int).toNat) x33_3)).f0) ((rd_T60 l0 (rd (l1.take (x11_1 : Int).toNat) x33_3)).f1) ((rd_T60 l0 (rd (l1.take (x11_1 : Int).toNat) x33_3)).f2) ((rd_T60 l0 (rd (l1.take (x11_1 : Int).toNat) x33_3)).f3) ((rd_T60 l0 (rd (l1.take (x11_1 : Int).toNat) x33_3)).f4) ((rd_T60 l0 (rd (l1.take (x11_1 : Int).toNat) x33_3)).f5) ((rd_T60 l0 (rd (l1.take (x11_1 : Int).toNat) x33_3)).f6) _ _ ((rd_T60 l0 (rd (l1.take (x11_1 : Int).toNat) x33_3)).f7) ((rd_T60 l0 (rd l1 x11_1)).f0) ((rd_T60 l0 (rd l1 x11_1)).f1) ((rd_T60 l0 (rd l1 x11_1)).f2) ((rd_T60 l0 (rd l1 x11_1)).f3) ((rd_T60 l0 (rd l1 x11_1)).f4) ((rd_T60 l0 (rd l1 x11_1)).f5) ((rd_T60 l0 (rd l1 x11_1)).f6) _ _ ((rd_T60 l0 (rd l1 x11_1)).f7) false _ ?side1 ?side2 ?side3 ?side4 A25.out).mono ?_
                                            (case side1 => repeat (first | exact (Kd.C_below HR320_7.out HB.out) | (with_reducible refine Kd.C_alloc ?_ _) | (with_reducible refine Kd.C_drewN ?_ _) | (with_reducible refine Kd.C_drew ?_)))
                                            (case side2 => exact HC320_7.out)
                                            (case side3 => repeat (first | exact (Kd.C_below HR321_7.out HB.out) | (with_reducible refine Kd.C_alloc ?_ _) | (with_reducible refine Kd.C_drewN ?_ _) | (with_reducible refine Kd.C_drew ?_)))
                                            (case side4 => exact HC321_7.out)
                                            rintro e w30 ⟨rfl, hb⟩
                                            refine ⟨_, rfl, ?_⟩
                                            have n0_ := Aside0.mk (below_step (by repeat (first | (with_reducible first | exact HB.out | apply below_alloc | apply pw_below_drewN | apply below_drew1) | exact HB.out)) hb)
                                            clear HB
                                            have HB := n0_
                                            clear n0_
                                            (try clear hb)
                                            (try clear hb2)
                                            (try clear hk)
                                            (try clear hi)
                                            refine hK.out _ _ ⟨((HB.out.cell (World.block_lt_of_cell? w _ hw320_0)).trans hw320_0), ((HB.out.cell (World.block_lt_of_cell? w _ hw320_1)).trans hw320_1), ((HB.out.cell (World.block_lt_of_cell? w _ hw320_2)).trans hw320_2), ((HB.out.cell (World.block_lt_of_cell? w _ hw320_3)).trans hw320_3), ((HB.out.cell (World.block_lt_of_cell? w _ hw320_4)).trans hw320_4), ((HB.out.cell (World.block_lt_of_cell? w _ hw320_5)).trans hw320_5), ((HB.out.cell (World.block_lt_of_cell? w _ hw320_6)).trans hw320_6), ((HB.out.cell (World.block_lt_of_cell? w _ hw320_7)).trans hw320_7), ((HB.out.cell (World.block_lt_of_cell? w _ hw321_0)).trans hw321_0), ((HB.out.cell (World.block_lt_of_cell? w _ hw321_1)).trans hw321_1), ((HB.out.cell (World.block_lt_of_cell? w _ hw321_2)).trans hw321_2), ((HB.out.cell (World.block_lt_of_cell? w _ hw321_3)).trans hw321_3), ((HB.out.cell (World.block_lt_of_cell? w _ hw321_4)).trans hw321_4), ((HB.out.cell (World.block_lt_of_cell? w _ hw321_5)).trans hw321_5), ((HB.out.cell (World.block_lt_of_cell? w _ hw321_6)).trans hw321_6), ((HB.out.cell (World.block_lt_of_cell? w _ hw321_7)).trans hw321_7)⟩ (fun hHeld => ?_)
                                            clear hK K
                                            refine norm_ (a' := ?_) ?_ ?_
                                            rotate_left
                                            · show Act.put _ (some 49) _ = _
                                              simp only [Act.put, List.setIfInBounds_toArray, List.set_cons_zero, List.set_cons_succ, i64_w, i32_w]
                                              rfl
                                            refine pure_ (i := 13) (N := some 50) (v := ?_) (a' := ?_) #[true, true, true, true, true, true, true, true, true, true, true, true, true, true, false] rfl rfl (any_of HT_.out (by kernel_rfl)) (fun _ _ _ h => h) (Or.inl ⟨by rfl, ?_⟩) ?_ ?_
                                            rotate_left
                                            · intro w'
                                              go_simp
                                              with_reducible rfl
                                            rotate_left
                                            · simp only [Act.put, List.setIfInBounds_toArray, List.set_cons_zero, List.set_cons_succ, i64_w, i32_w]
                                              rfl
                                            refine pure_ (i := 14) (N := some 51) (v := ?_) (a' := ?_) #[true, true, true, true, true, true, true, true, true, true, true, true, true, true, true] rfl rfl (any_of HT_.out (by kernel_rfl)) (fun _ _ _ h => h) (Or.inl ⟨by rfl, ?_⟩) ?_ ?_
                                            rotate_left
                                            · intro w'
                                              go_simp
                                              with_reducible rfl
                                            rotate_left
                                            · simp only [Act.put, List.setIfInBounds_toArray, List.set_cons_zero, List.set_cons_succ, i64_w, i32_w]
                                              rfl
                                            refine done_ (done_of HT_.out (by kernel_rfl)) ?_
                                            try go_wp2
                                            go_ret
                                            exact ⟨by first | rfl | (simp [errW_none, errW_some] <;> rfl) | (simp [*, errW_none, errW_some] <;> rfl), by repeat (first | (with_reducible first | exact HB.out | apply below_alloc | apply pw_below_drewN | apply below_drew1) | exact HB.out)⟩
                                        · rw [if_neg c24] at H
                                          exact absurd H (by simp)
                                      · rw [if_neg c23] at H
                                        exact absurd H (by simp)
                                    · rw [if_neg c22] at H
                                      exact absurd H (by simp)
                                  · rw [if_neg c21] at H
                                    exact absurd H (by simp)
                                · rw [if_neg c20] at H
                                  have c20b0 : decide ((rd l1 x11_1) < (rd (l1.take (x11_1 : Int).toNat) x33_3)) = false := decide_eq_false c20
                                  clear c20
                                  have H' := Aside0.mk H
                                  clear H
                                  have p319 : 0 ≤ (x33_3 : Int) := of_decide_eq_true (by first | (with_reducible assumption) | assumption)
                                  have q319 : x33_3 < ((l1.take (x11_1 : Int).toNat).length : Int) := of_decide_eq_true (by first | (with_reducible assumption) | assumption)
                                  have q319m := eq_true (show x33_3 < max x11_1 0 from by rw [← HLM16.out]; exact q319)
                                  obtain ⟨ad319, e319, hx319_0⟩ := Kd.at_int HR318.out x33_3 p319 q319
                                  obtain rfl : ad314 = ad319 := (by injection e319)
                                  replace hx319_0 := (HB.out.cell (World.block_lt_of_cell? w _ hx319_0)).trans hx319_0
                                  replace p319 := eq_true p319
                                  replace q319 := eq_true q319
                                  try go_wp2
                                  have n0_ := Aside0.mk (below_drew1 HB.out)
                                  clear HB
                                  have HB := n0_
                                  clear n0_
                                  refine start_ (n := 15) (S := fun w' => True) (ds := []) #[false, false, false, false, false, false, false, false, false, false, false, false, false, false, false] (by kernel_rfl) rfl rfl trivial (fun hHeld => ?_); refine with_tabW impl_IsLegalOrder.tab9 impl_IsLegalOrder.bits9 (fun HT_ HW_ => ?_)
                                  generalize wr.drew = w31 at HB hHeld ⊢
                                  refine pure_ (i := 0) (N := some 37) (v := ?_) (a' := ?_) #[true, false, false, false, false, false, false, false, false, false, false, false, false, false, false] rfl rfl (any_of HT_.out (by kernel_rfl)) (fun _ _ _ h => h) (Or.inl ⟨by rfl, ?_⟩) ?_ ?_
                                  rotate_left
                                  · intro w'
                                    go_simp
                                    with_reducible rfl
                                  rotate_left
                                  · simp only [Act.put, List.setIfInBounds_toArray, List.set_cons_zero, List.set_cons_succ, i64_w, i32_w]
                                    rfl
                                  refine pure_ (i := 1) (N := some 38) (v := ?_) (a' := ?_) #[true, true, false, false, false, false, false, false, false, false, false, false, false, false, false] rfl rfl (any_of HT_.out (by kernel_rfl)) (fun _ _ _ h => h) (Or.inl ⟨by rfl, ?_⟩) ?_ ?_
                                  rotate_left
                                  · intro w'
                                    go_simp
                                    with_reducible rfl
                                  rotate_left
                                  · simp only [Act.put, List.setIfInBounds_toArray, List.set_cons_zero, List.set_cons_succ, i64_w, i32_w]
                                    rfl
                                  refine pure_ (i := 2) (N := some 39) (v := ?_) (a' := ?_) #[true, true, true, false, false, false, false, false, false, false, false, false, false, false, false] rfl rfl (any_of HT_.out (by kernel_rfl)) (fun _ _ _ h => h) (Or.inl ⟨by rfl, ?_⟩) ?_ ?_
                                  rotate_left
                                  · intro w'
                                    go_simp
                                    with_reducible rfl
                                  rotate_left
                                  · simp only [Act.put, List.setIfInBounds_toArray, List.set_cons_zero, List.set_cons_succ, i64_w, i32_w]
                                    rfl
                                  refine pure_ (i := 3) (N := some 40) (v := ?_) (a' := ?_) #[true, true, true, true, false, false, false, false, false, false, false, false, false, false, false] rfl rfl (any_of HT_.out (by kernel_rfl)) (fun _ _ _ h => h) (Or.inl ⟨by rfl, ?_⟩) ?_ ?_
                                  rotate_left
                                  · intro w'
                                    go_simp
                                    with_reducible rfl
                                  rotate_left
                                  · simp only [Act.put, List.setIfInBounds_toArray, List.set_cons_zero, List.set_cons_succ, i64_w, i32_w]
                                    rfl
                                  refine pure_ (i := 4) (N := some 41) (v := undef) (a' := ?_) #[true, true, true, true, true, false, false, false, false, false, false, false, false, false, false] rfl rfl (any_of HT_.out (by kernel_rfl)) (fun _ _ _ h => h) (Or.inr ⟨by rfl, rfl⟩) ?_ ?_
                                  rotate_left
                                  · simp only [Act.put, List.setIfInBounds_toArray, List.set_cons_zero, List.set_cons_succ, i64_w, i32_w]
                                    rfl
                                  refine pure_ (i := 5) (N := some 42) (v := undef) (a' := ?_) #[true, true, true, true, true, true, false, false, false, false, false, false, false, false, false] rfl rfl (any_of HT_.out (by kernel_rfl)) (fun _ _ _ h => h) (Or.inr ⟨by rfl, rfl⟩) ?_ ?_
                                  rotate_left
                                  · simp only [Act.put, List.setIfInBounds_toArray, List.set_cons_zero, List.set_cons_succ, i64_w, i32_w]
                                    rfl
                                  refine pure_ (i := 6) (N := some 43) (v := undef) (a' := ?_) #[true, true, true, true, true, true, true, false, false, false, false, false, false, false, false] rfl rfl (any_of HT_.out (by kernel_rfl)) (fun _ _ _ h => h) (Or.inr ⟨by rfl, rfl⟩) ?_ ?_
                                  rotate_left
                                  · simp only [Act.put, List.setIfInBounds_toArray, List.set_cons_zero, List.set_cons_succ, i64_w, i32_w]
                                    rfl
                                  refine pure_ (i := 7) (N := some 44) (v := undef) (a' := ?_) #[true, true, true, true, true, true, true, true, false, false, false, false, false, false, false] rfl rfl (any_of HT_.out (by kernel_rfl)) (fun _ _ _ h => h) (Or.inr ⟨by rfl, rfl⟩) ?_ ?_
                                  rotate_left
                                  · simp only [Act.put, List.setIfInBounds_toArray, List.set_cons_zero, List.set_cons_succ, i64_w, i32_w]
                                    rfl
                                  refine pure_ (i := 8) (N := some 45) (v := undef) (a' := ?_) #[true, true, true, true, true, true, true, true, true, false, false, false, false, false, false] rfl rfl (any_of HT_.out (by kernel_rfl)) (fun _ _ _ h => h) (Or.inr ⟨by rfl, rfl⟩) ?_ ?_
                                  rotate_left
                                  · simp only [Act.put, List.setIfInBounds_toArray, List.set_cons_zero, List.set_cons_succ, i64_w, i32_w]
                                    rfl
                                  refine pure_ (i := 9) (N := some 46) (v := undef) (a' := ?_) #[true, true, true, true, true, true, true, true, true, true, false, false, false, false, false] rfl rfl (any_of HT_.out (by kernel_rfl)) (fun _ _ _ h => h) (Or.inr ⟨by rfl, rfl⟩) ?_ ?_
                                  rotate_left
                                  · simp only [Act.put, List.setIfInBounds_toArray, List.set_cons_zero, List.set_cons_succ, i64_w, i32_w]
                                    rfl
                                  refine pure_ (i := 10) (N := some 47) (v := undef) (a' := ?_) #[true, true, true, true, true, true, true, true, true, true, true, false, false, false, false] rfl rfl (any_of HT_.out (by kernel_rfl)) (fun _ _ _ h => h) (Or.inr ⟨by rfl, rfl⟩) ?_ ?_
                                  rotate_left
                                  · simp only [Act.put, List.setIfInBounds_toArray, List.set_cons_zero, List.set_cons_succ, i64_w, i32_w]
                                    rfl
                                  refine pure_ (i := 11) (N := some 48) (v := undef) (a' := ?_) #[true, true, true, true, true, true, true, true, true, true, true, true, false, false, false] rfl rfl (any_of HT_.out (by kernel_rfl)) (fun _ _ _ h => h) (Or.inr ⟨by rfl, rfl⟩) ?_ ?_
                                  rotate_left
                                  · simp only [Act.put, List.setIfInBounds_toArray, List.set_cons_zero, List.set_cons_succ, i64_w, i32_w]
                                    rfl
                                  refine pure_ (i := 12) (N := some 49) (v := undef) (a' := ?_) #[true, true, true, true, true, true, true, true, true, true, true, true, true, false, false] rfl rfl (any_of HT_.out (by kernel_rfl)) (fun _ _ _ h => h) (Or.inr ⟨by rfl, rfl⟩) ?_ ?_
                                  rotate_left
                                  · simp only [Act.put, List.setIfInBounds_toArray, List.set_cons_zero, List.set_cons_succ, i64_w, i32_w]
                                    rfl
                                  refine pure_ (i := 13) (N := some 50) (v := undef) (a' := ?_) #[true, true, true, true, true, true, true, true, true, true, true, true, true, true, false] rfl rfl (any_of HT_.out (by kernel_rfl)) (fun _ _ _ h => h) (Or.inr ⟨by rfl, rfl⟩) ?_ ?_
                                  rotate_left
                                  · simp only [Act.put, List.setIfInBounds_toArray, List.set_cons_zero, List.set_cons_succ, i64_w, i32_w]
                                    rfl
                                  refine pure_ (i := 14) (N := some 51) (v := ?_) (a' := ?_) #[true, true, true, true, true, true, true, true, true, true, true, true, true, true, true] rfl rfl (any_of HT_.out (by kernel_rfl)) (fun _ _ _ h => h) (Or.inl ⟨by rfl, ?_⟩) ?_ ?_
                                  rotate_left
                                  · intro w'
                                    go_simp
                                    with_reducible rfl
                                  rotate_left
                                  · simp only [Act.put, List.setIfInBounds_toArray, List.set_cons_zero, List.set_cons_succ, i64_w, i32_w]
                                    rfl
                                  refine done_ (done_of HT_.out (by kernel_rfl)) ?_
                                  try go_wp2
                                  go_roundg k3
                                  case measure => have := HK1.out; have := HJ5.out; have := HK3.out; omega
                                  case rel => exact ⟨(wrap64 (x33_3 + 1)), (by first | rfl | (simp; done) | (simp [*]; done)), H', ⟨by have := HK1.out; have := HJ5.out; have := HK3.out; omega⟩, ⟨by repeat (first | (with_reducible first | exact HB.out | apply below_alloc | apply pw_below_drewN | apply below_drew1) | exact HB.out)⟩⟩
                              · rw [if_neg c19] at H
                                exact absurd H (by simp)
                            · rw [if_neg c18] at H
                              exact absurd H (by simp)
                          · rw [if_neg c17] at H
                            have c17b0 : decide (x33_3 < ((l1.take (x11_1 : Int).toNat).length : Int)) = false := decide_eq_false c17
                            have c17b0m : decide (x33_3 < max x11_1 0) = false := by rw [← HLM16.out]; exact c17b0
                            clear c17
                            have H' := Aside0.mk H
                            clear H
                            go_wp2
                            go_roundg k3
                            case measure => have := HK1.out; have := HJ5.out; have := HK3.out; omega
                            case rel => exact ⟨(wrap64 (x11_1 + 1)), (by first | rfl | (simp; done) | (simp [*]; done)), H', ⟨by have := HK1.out; have := HJ5.out; have := HK3.out; omega⟩, ⟨by repeat (first | (with_reducible first | exact HB.out | apply below_alloc | apply pw_below_drewN | apply below_drew1) | exact HB.out)⟩⟩
                    · rw [if_neg c15] at H
                      exact absurd H (by simp)
                  · rw [if_neg c14] at H
                    exact absurd H (by simp)
          · rw [if_neg c5] at H
            exact absurd H (by simp)
        · rw [if_neg c4] at H
          exact absurd H (by simp)
      · rw [if_neg c3] at H
        have c3b0 : decide (x11_1 < (l1.length : Int)) = false := decide_eq_false c3
        clear c3
        obtain rfl := Option.some.inj H
        go_wp2
        go_ret
        exact ⟨by first | rfl | (simp [errW_none, errW_some] <;> rfl) | (simp [*, errW_none, errW_some] <;> rfl), by repeat (first | (with_reducible first | exact HB.out | apply below_alloc | apply pw_below_drewN | apply below_drew1) | exact HB.out)⟩

end Go.Proofs.Ytbdehpmfemgooaa.PFnPassers
